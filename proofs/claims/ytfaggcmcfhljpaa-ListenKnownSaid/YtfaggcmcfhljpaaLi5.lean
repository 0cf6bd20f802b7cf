/- Who descends from a plate; sets; searching: walked. -/
import Derived.Test.YtfaggcmcfhljpaaLi4
namespace Go.Proofs.Ytfaggcmcfhljpaa
open Go.Sx Go.Proofs

theorem ext_getD {α : Type} [Inhabited α] {l m : List α} (hl : l.length = m.length) (h : ∀ q, q < l.length → l.getD q default = m.getD q default) : l = m := by
  apply List.ext_getElem hl
  intro i h1 h2
  have := h i h1
  simpa [List.getD, h1, h2] using this
theorem getD_set {α : Type} [Inhabited α] {l : List α} {k q : Nat} {x : α} (hk : k < l.length) : (l.set k x).getD q default = if q = k then x else l.getD q default := by
  simp only [List.getD, List.getElem?_set]
  by_cases h : q = k
  · subst h; simp [hk]
  · rw [if_neg (fun e => h e.symm), if_neg h]

/-- a room in an old world -/
structure RoomW (w : World) (g : Nat) (A A3 A4 : Option Addr) (c c3 c4 : Nat) (p : List Plt) (d : List Dsc) (side : Int) : Prop where
  blk : BlkAt w g (roomC A A3 A4 p.length d.length c c3 c4) 101
  pl : RdL w 7 ePlt A p
  ser : RdL w 1 eI A3 (serS d)
  stm : RdL w 1 eI A4 (stmS d side)
theorem RoomW.sh {w w' : World} {g : Nat} {A A3 A4 : Option Addr} {c c3 c4 : Nat} {p : List Plt} {d : List Dsc} {side : Int} {H : Items} (h : RoomW w g A A3 A4 c c3 c4 p d side) (m : SH w none' H w') : RoomW w' g A A3 A4 c c3 c4 p d side :=
  ⟨h.blk.sh m, h.pl.sh m, h.ser.sh m, h.stm.sh m⟩
theorem under1_of {p : List Plt} {plate frm s t c : Int} (h : climb p plate p.length s p.length = (t, c)) : under1 p plate frm s = (decide (t = plate) && decide (frm ≤ c)) := by unfold under1; rw [h]
theorem under_get {p : List Plt} {d : List Dsc} {side plate frm : Int} {k : Nat} (hk : k < d.length) : (under p d side plate frm).getD k default = under1 p plate frm (ofS (d.getD k default) side) := by
  simp [under, stmS, List.getD, hk]

section
variable {p : List Plt} {d : List Dsc} {A A3 A4 : Option Addr} {c c3 c4 g : Nat} {side : Int} {w : World}
set_option maxRecDepth 10000 in
theorem C_under {plate frm : Int} (hr : RoomW w g A A3 A4 c c3 c4 p d side) (hR : Room p d side) :
    Con Try.prog 64 [ptr g 0, I plate, I frm] w (fun y : Nat × Items => Own 1 4 eB (under p d side plate frm) (.slice (some ⟨y.1, 0, none⟩) d.length d.length) y.2)
      (fun y => .slice (some ⟨y.1, 0, none⟩) d.length d.length) (fun y => y.2) := by
  have hls := serS_len d
  have hlm := stmS_len d side
  have hdl := hR.dl
  have hpl := hR.pl
  have hul := under_len p d side plate frm
  refine Ret_of (vs := [_, _, _]) hm none' Try.func64 rfl Try.ntmps64 rfl ?_
  dsimp only [slotsOf]
  refine GE_seq ?_
  refine GE_plain (.st 0 .nil) rfl ?_
  refine GT_st rfl rfl rfl rfl (V_assign rfl rfl) ?_
  refine GT_nil ?_
  refine GE_seq ?_
  refine GE_plain (.st 0 (.st 1 (.st 2 (.st 3 (.st 4 (.ld 5 [] (.st 6 .nil))))))) rfl ?_
  refine GT_st rfl rfl rfl rfl (V_move rfl rfl) ?_
  first | refine GT_st rfl rfl rfl rfl (V_nilCheck rfl rfl) ?_ | refine GT_st rfl rfl rfl rfl (V_nilCheck_func rfl rfl) ?_ | refine GT_st rfl rfl rfl rfl (V_nilCheck_yield rfl rfl) ?_
  first | refine GT_st rfl rfl rfl rfl (V_field rfl rfl fo_101_1) ?_ | refine GT_st rfl rfl rfl rfl (V_fieldA rfl rfl fo_101_1) ?_
  first | refine GT_st rfl rfl rfl rfl (V_load rfl rfl ag_42 (CellAt.item rfl)) ?_ | refine GT_st rfl rfl rfl rfl (V_load rfl rfl ag_42 (CellAt.old (hr.blk.cell rfl) (noM _))) ?_
  refine GT_st rfl rfl rfl rfl (V_len rfl Try.underlying42 rfl) ?_
  refine GT_makeSlice rfl rfl rfl rfl rfl rfl rfl Try.underlying91 zc_4 sz_4 by_4 ⟨rfl, rfl, rfl⟩ ⟨by omega, by omega⟩ (fun _ => GR_nil) (fun b16 => ?_)
  refine GT_st rfl rfl rfl rfl (V_assign rfl rfl) ?_
  refine GT_nil ?_
  refine GE_seq ?_
  refine GE_seq ?_
  refine GE_slots (L' := [(0, _), (1, _), (2, _), (7, _)]) ⟨rfl, rfl, rfl, rfl, trivial⟩ ?_
  refine GE_plain (.st 0 (.st 1 (.st 2 (.st 3 (.st 4 (.st 5 .nil)))))) rfl ?_
  refine GT_st rfl rfl rfl rfl (V_move rfl rfl) ?_
  first | refine GT_st rfl rfl rfl rfl (V_nilCheck rfl rfl) ?_ | refine GT_st rfl rfl rfl rfl (V_nilCheck_func rfl rfl) ?_ | refine GT_st rfl rfl rfl rfl (V_nilCheck_yield rfl rfl) ?_
  first | refine GT_st rfl rfl rfl rfl (V_field rfl rfl fo_101_2) ?_ | refine GT_st rfl rfl rfl rfl (V_fieldA rfl rfl fo_101_2) ?_
  first | refine GT_st rfl rfl rfl rfl (V_load rfl rfl ag_66 (CellAt.item rfl)) ?_ | refine GT_st rfl rfl rfl rfl (V_load rfl rfl ag_66 (CellAt.old (hr.blk.cell rfl) (noM _))) ?_
  refine GT_st rfl rfl rfl rfl (V_len rfl Try.underlying66 rfl) ?_
  refine GT_st rfl rfl rfl rfl (V_move rfl rfl) ?_
  refine GT_nil ?_
  refine GE_block ?_
  refine GE_to (GE_loop (ι := Nat × List Bool × Items) (fun x => d.length - x.1) (fun x => [(0, ptr g 0), (1, I plate), (2, I frm), (7, .slice (some ⟨b16, 0, none⟩) d.length d.length), (20, .slice A4 d.length c4), (21, I d.length), (22, I x.1)]) (fun x => x.2.2) (fun x => x.1 ≤ d.length ∧ x.2.1.length = d.length ∧ (∀ q, q < x.1 → x.2.1.getD q default = (under p d side plate frm).getD q default) ∧ Own 1 4 eB x.2.1 (.slice (some ⟨b16, 0, none⟩) d.length d.length) x.2.2) ?_ (0, List.replicate d.length false, [(b16, blk ((List.replicate d.length [.bool false]).flatten) 4)]) ?_) ⟨rfl, rfl, rfl, rfl, rfl, rfl, rfl, trivial⟩ HS.last
  · rintro ⟨k, l, I1⟩ ⟨hk, hll, hlq, hO⟩ ih; dsimp only at hk hll hlq hO ih ⊢
    refine GE_seq ?_
    refine GE_plain (.st 0 .nil) rfl ?_
    refine GT_st rfl rfl rfl rfl (V_lss rfl rfl rfl) ?_
    refine GT_nil ?_
    refine GE_seq ?_
    first | refine GE_condNot rfl (fun h1 => ?_) (fun h1 => ?_) | refine GE_cond rfl (fun h1 => ?_) (fun h1 => ?_) | refine GE_condNotB rfl (fun h1 => ?_) (fun h1 => ?_) | refine GE_condB rfl (fun h1 => ?_) (fun h1 => ?_)
    · have hkl : k < d.length := (by omega); have hs0 := ofS_in (side := side) hR.dsok hkl
      refine GE_skip ?_
      refine GE_seq ?_
      refine GE_block ?_
      refine GE_seq ?_
      refine GE_plain (.st 0 (.st 1 (.st 2 (.st 3 (.st 4 .nil))))) rfl ?_
      refine GT_st rfl rfl rfl rfl (V_move rfl rfl) ?_
      refine GT_st rfl rfl rfl rfl (V_index rfl rfl rfl Try.underlying66 sz_3 (k := k) rfl hkl (hr.stm.isSome (k := k) (by omega))) ?_
      refine GT_st rfl rfl rfl rfl (V_load rfl rfl ag_3 (hr.stm.at0 noM (by omega) (by rw [stmS_get hkl]; rfl))) ?_
      refine GT_st rfl rfl rfl rfl (V_assign rfl rfl) ?_
      refine GT_st rfl rfl rfl rfl (V_assign rfl rfl) ?_
      refine GT_nil ?_
      refine GE_seq ?_
      refine GE_slots (L' := [(0, _), (1, _), (2, _), (7, _), (8, _), (9, _), (20, _), (21, _), (22, _)]) ⟨rfl, rfl, rfl, rfl, rfl, rfl, rfl, rfl, rfl, trivial⟩ ?_
      refine GE_plain (.st 0 (.st 1 (.st 2 (.st 3 (.st 4 (.st 5 .nil)))))) rfl ?_
      refine GT_st rfl rfl rfl rfl (V_move rfl rfl) ?_
      first | refine GT_st rfl rfl rfl rfl (V_nilCheck rfl rfl) ?_ | refine GT_st rfl rfl rfl rfl (V_nilCheck_func rfl rfl) ?_ | refine GT_st rfl rfl rfl rfl (V_nilCheck_yield rfl rfl) ?_
      first | refine GT_st rfl rfl rfl rfl (V_field rfl rfl fo_101_0) ?_ | refine GT_st rfl rfl rfl rfl (V_fieldA rfl rfl fo_101_0) ?_
      first | refine GT_st rfl rfl rfl rfl (V_load rfl rfl ag_36 (CellAt.item rfl)) ?_ | refine GT_st rfl rfl rfl rfl (V_load rfl rfl ag_36 (CellAt.old (hr.blk.cell rfl) (noM _))) ?_
      refine GT_st rfl rfl rfl rfl (V_len rfl Try.underlying36 rfl) ?_
      refine GT_st rfl rfl rfl rfl (V_assign rfl rfl) ?_
      refine GT_nil ?_
      refine GE_seq ?_
      refine GE_block ?_
      refine GE_to (GE_loop (ι := Int × Int × Nat) (fun x => (x.1 + 1).toNat) (fun x => [(0, ptr g 0), (1, I plate), (2, I frm), (7, .slice (some ⟨b16, 0, none⟩) d.length d.length), (8, I k), (9, I x.1), (10, I x.2.1), (20, .slice A4 d.length c4), (21, I d.length), (22, I k)]) (fun x => I1) (fun x => -1 ≤ x.1 ∧ x.1 < p.length ∧ x.1 < x.2.2 ∧ climb p plate x.2.2 x.1 x.2.1 = climb p plate p.length (ofS (d.getD k default) side) p.length) ?_ (ofS (d.getD k default) side, p.length, p.length) ?_) ⟨rfl, rfl, rfl, rfl, rfl, rfl, rfl, rfl, rfl, rfl, trivial⟩ HS.last
      · rintro ⟨s, cc, f⟩ ⟨hs1, hs2, hsf, hcl⟩ ih2; dsimp only at hs1 hs2 hsf hcl ih2 ⊢
        refine GE_seq ?_
        refine GE_seq ?_
        refine GE_plain (.st 0 (.st 1 (.st 2 (.st 3 (.st 4 (.st 5 (.st 6 .nil))))))) rfl ?_
        refine GT_st rfl rfl rfl rfl (V_move rfl rfl) ?_
        refine GT_st rfl rfl rfl rfl (V_move rfl rfl) ?_
        refine GT_st rfl rfl rfl rfl (V_neq rfl rfl rfl) ?_
        refine GT_st rfl rfl rfl rfl (V_move rfl rfl) ?_
        first | refine GT_splitNot (d := 35) rfl (fun h2 => ?_) (fun h2 => ?_) | refine GT_split (d := 35) rfl (fun h2 => ?_) (fun h2 => ?_) | refine GT_splitNotB (d := 35) rfl (fun h2 => ?_) (fun h2 => ?_) | refine GT_splitB (d := 35) rfl (fun h2 => ?_) (fun h2 => ?_)
        · skip
          refine GT_st_g rfl rfl rfl rfl rfl rfl rfl (V_move rfl rfl) ?_
          refine GT_st_g rfl rfl rfl rfl rfl rfl rfl (V_geq rfl rfl rfl) ?_
          refine GT_st rfl rfl rfl rfl (V_pick_t rfl rfl rfl) ?_
          refine GT_nil ?_
          first | refine GE_condNot rfl (fun h3 => ?_) (fun h3 => ?_) | refine GE_cond rfl (fun h3 => ?_) (fun h3 => ?_) | refine GE_condNotB rfl (fun h3 => ?_) (fun h3 => ?_) | refine GE_condB rfl (fun h3 => ?_) (fun h3 => ?_)
          · have hpa := Room.plate hR.plok (i := s.toNat) (by omega)
            refine GE_skip ?_
            refine GE_block ?_
            refine GE_slots (L' := [(0, _), (1, _), (2, _), (7, _), (8, _), (9, _), (20, _), (21, _), (22, _), (36, _), (37, _)]) ⟨rfl, rfl, rfl, rfl, rfl, rfl, rfl, rfl, rfl, rfl, rfl, trivial⟩ ?_
            refine GE_plain (.st 0 (.st 1 (.st 2 (.st 3 (.st 4 (.st 5 (.st 6 (.st 7 (.st 8 (.ld 9 [] (.st 10 .nil))))))))))) rfl ?_
            refine GT_st rfl rfl rfl rfl (V_move rfl rfl) ?_
            first | refine GT_st rfl rfl rfl rfl (V_nilCheck rfl rfl) ?_ | refine GT_st rfl rfl rfl rfl (V_nilCheck_func rfl rfl) ?_ | refine GT_st rfl rfl rfl rfl (V_nilCheck_yield rfl rfl) ?_
            first | refine GT_st rfl rfl rfl rfl (V_field rfl rfl fo_101_0) ?_ | refine GT_st rfl rfl rfl rfl (V_fieldA rfl rfl fo_101_0) ?_
            first | refine GT_st rfl rfl rfl rfl (V_load rfl rfl ag_36 (CellAt.item rfl)) ?_ | refine GT_st rfl rfl rfl rfl (V_load rfl rfl ag_36 (CellAt.old (hr.blk.cell rfl) (noM _))) ?_
            refine GT_st rfl rfl rfl rfl (V_move rfl rfl) ?_
            refine GT_st rfl rfl rfl rfl (V_index rfl rfl rfl Try.underlying36 sz_53 (k := s.toNat) (by omega) (by omega) (hr.pl.isSome (k := s.toNat) (by omega))) ?_
            first | refine GT_st rfl rfl rfl rfl (V_field rfl rfl fo_53_1) ?_ | refine GT_st rfl rfl rfl rfl (V_fieldA rfl rfl fo_53_1) ?_
            refine GT_st rfl rfl rfl rfl (V_load rfl rfl ag_3 (hr.pl.at1 noM (by omega) rfl)) ?_
            refine GT_st rfl rfl rfl rfl (V_move rfl rfl) ?_
            refine GT_ldv rfl rfl rfl rfl rfl (V_assign rfl rfl) (GR_nil) ?_
            refine GT_st rfl rfl rfl rfl (V_assign rfl rfl) ?_
            refine GT_nil ?_
            refine GE_inBlock ?_
            exact GE_to (ih2 ((p.getD s.toNat default).par, s, f - 1) ⟨by dsimp only; omega, by dsimp only; omega, by dsimp only; omega, by dsimp only; rw [← hcl]; conv => (rhs; rw [show f = (f - 1) + 1 by omega, climb_go ⟨h2, h3⟩])⟩ (by dsimp only; omega)) ⟨rfl, rfl, rfl, rfl, rfl, rfl, rfl, rfl, rfl, rfl, trivial⟩ HS.last
          · rw [climb_stop (by omega)] at hcl; have hu1 := under1_of (frm := frm) hcl.symm
            refine GE_exit rfl ?_
            refine GE_slots (L' := [(0, _), (1, _), (2, _), (7, _), (8, _), (9, _), (10, _), (20, _), (21, _), (22, _), (36, _), (37, _)]) ⟨rfl, rfl, rfl, rfl, rfl, rfl, rfl, rfl, rfl, rfl, rfl, rfl, trivial⟩ ?_
            refine GE_plain (.st 0 (.st 1 (.st 2 (.st 3 (.st 4 (.st 5 (.st 6 (.st 7 (.st 8 (.st 9 (.st 10 (.ld 11 [] .nil)))))))))))) rfl ?_
            refine GT_st rfl rfl rfl rfl (V_move rfl rfl) ?_
            refine GT_st rfl rfl rfl rfl (V_move rfl rfl) ?_
            refine GT_st rfl rfl rfl rfl (V_move rfl rfl) ?_
            refine GT_st rfl rfl rfl rfl (V_move rfl rfl) ?_
            refine GT_st rfl rfl rfl rfl (V_eql rfl rfl rfl) ?_
            refine GT_st rfl rfl rfl rfl (V_move rfl rfl) ?_
            first | refine GT_splitNot (d := 53) rfl (fun h4 => ?_) (fun h4 => ?_) | refine GT_split (d := 53) rfl (fun h4 => ?_) (fun h4 => ?_) | refine GT_splitNotB (d := 53) rfl (fun h4 => ?_) (fun h4 => ?_) | refine GT_splitB (d := 53) rfl (fun h4 => ?_) (fun h4 => ?_)
            · skip
              refine GT_st_g rfl rfl rfl rfl rfl rfl rfl (V_move rfl rfl) ?_
              refine GT_st_g rfl rfl rfl rfl rfl rfl rfl (V_move rfl rfl) ?_
              refine GT_st_g rfl rfl rfl rfl rfl rfl rfl (V_geq rfl rfl rfl) ?_
              refine GT_st rfl rfl rfl rfl (V_pick_t rfl rfl rfl) ?_
              refine GT_st rfl rfl rfl rfl (V_index rfl rfl rfl Try.underlying91 sz_4 (k := k) rfl hkl rfl) ?_
              refine GT_storeOwn (enc := eB) (q := k) (xx := under1 p plate frm (ofS (d.getD k default) side)) rfl rfl rfl rfl rfl rfl (by rw [hu1]; simp [eB, h4, Value.cells]) sz_4 hO eB_len eB_one (by omega) (by decide) (fun _ _ => GR_nil) (fun I2 hO2 => ?_)
              refine GT_nil ?_
              refine GE_inBlock ?_
              refine GE_slots (L' := [(0, _), (1, _), (2, _), (7, _), (20, _), (21, _), (22, _), (36, _), (37, _), (54, _), (55, _), (56, _)]) ⟨rfl, rfl, rfl, rfl, rfl, rfl, rfl, rfl, rfl, rfl, rfl, rfl, trivial⟩ ?_
              refine GE_plain (.st 0 (.ld 1 [] .nil)) rfl ?_
              refine GT_st rfl rfl rfl rfl (V_add rfl rfl rfl (wrap_i64 (by omega))) ?_
              refine GT_ldv rfl rfl rfl rfl rfl (V_move rfl rfl) (GR_nil) ?_
              refine GT_nil ?_
              exact GE_to (ih (k + 1, _, I2) ⟨by dsimp only; omega, by simpa using hll, fun q hq => by dsimp only; rw [getD_set (by omega)]; by_cases e : q = k; rw [if_pos e, e]; exact (under_get hkl).symm; rw [if_neg e]; exact hlq q (by omega), hO2⟩ (by dsimp only; omega)) ⟨rfl, rfl, rfl, rfl, rfl, rfl, rfl, trivial⟩ HS.last
            · skip
              refine GT_skip rfl rfl rfl rfl rfl (by decide) rfl rfl ?_
              refine GT_skip rfl rfl rfl rfl rfl (by decide) rfl rfl ?_
              refine GT_skip rfl rfl rfl rfl rfl (by decide) rfl rfl ?_
              refine GT_st rfl rfl rfl rfl (V_pick_f rfl rfl rfl) ?_
              refine GT_st rfl rfl rfl rfl (V_index rfl rfl rfl Try.underlying91 sz_4 (k := k) rfl hkl rfl) ?_
              refine GT_storeOwn (enc := eB) (q := k) (xx := under1 p plate frm (ofS (d.getD k default) side)) rfl rfl rfl rfl rfl rfl (by rw [hu1]; simp [eB, h4, Value.cells]) sz_4 hO eB_len eB_one (by omega) (by decide) (fun _ _ => GR_nil) (fun I2 hO2 => ?_)
              refine GT_nil ?_
              refine GE_inBlock ?_
              refine GE_slots (L' := [(0, _), (1, _), (2, _), (7, _), (20, _), (21, _), (22, _), (36, _), (37, _), (54, _), (55, _), (56, _)]) ⟨rfl, rfl, rfl, rfl, rfl, rfl, rfl, rfl, rfl, rfl, rfl, rfl, trivial⟩ ?_
              refine GE_plain (.st 0 (.ld 1 [] .nil)) rfl ?_
              refine GT_st rfl rfl rfl rfl (V_add rfl rfl rfl (wrap_i64 (by omega))) ?_
              refine GT_ldv rfl rfl rfl rfl rfl (V_move rfl rfl) (GR_nil) ?_
              refine GT_nil ?_
              exact GE_to (ih (k + 1, _, I2) ⟨by dsimp only; omega, by simpa using hll, fun q hq => by dsimp only; rw [getD_set (by omega)]; by_cases e : q = k; rw [if_pos e, e]; exact (under_get hkl).symm; rw [if_neg e]; exact hlq q (by omega), hO2⟩ (by dsimp only; omega)) ⟨rfl, rfl, rfl, rfl, rfl, rfl, rfl, trivial⟩ HS.last
        · rw [climb_stop (by omega)] at hcl; have hu1 := under1_of (frm := frm) hcl.symm
          refine GT_skip rfl rfl rfl rfl rfl (by decide) rfl rfl ?_
          refine GT_skip rfl rfl rfl rfl rfl (by decide) rfl rfl ?_
          refine GT_st rfl rfl rfl rfl (V_pick_f rfl rfl rfl) ?_
          refine GT_nil ?_
          refine GE_cond_f rfl ?_
          refine GE_exit rfl ?_
          refine GE_slots (L' := [(0, _), (1, _), (2, _), (7, _), (8, _), (9, _), (10, _), (20, _), (21, _), (22, _), (36, _), (37, _)]) ⟨rfl, rfl, rfl, rfl, rfl, rfl, rfl, rfl, rfl, rfl, rfl, rfl, trivial⟩ ?_
          refine GE_plain (.st 0 (.st 1 (.st 2 (.st 3 (.st 4 (.st 5 (.st 6 (.st 7 (.st 8 (.st 9 (.st 10 (.ld 11 [] .nil)))))))))))) rfl ?_
          refine GT_st rfl rfl rfl rfl (V_move rfl rfl) ?_
          refine GT_st rfl rfl rfl rfl (V_move rfl rfl) ?_
          refine GT_st rfl rfl rfl rfl (V_move rfl rfl) ?_
          refine GT_st rfl rfl rfl rfl (V_move rfl rfl) ?_
          refine GT_st rfl rfl rfl rfl (V_eql rfl rfl rfl) ?_
          refine GT_st rfl rfl rfl rfl (V_move rfl rfl) ?_
          first | refine GT_splitNot (d := 53) rfl (fun h4 => ?_) (fun h4 => ?_) | refine GT_split (d := 53) rfl (fun h4 => ?_) (fun h4 => ?_) | refine GT_splitNotB (d := 53) rfl (fun h4 => ?_) (fun h4 => ?_) | refine GT_splitB (d := 53) rfl (fun h4 => ?_) (fun h4 => ?_)
          · skip
            refine GT_st_g rfl rfl rfl rfl rfl rfl rfl (V_move rfl rfl) ?_
            refine GT_st_g rfl rfl rfl rfl rfl rfl rfl (V_move rfl rfl) ?_
            refine GT_st_g rfl rfl rfl rfl rfl rfl rfl (V_geq rfl rfl rfl) ?_
            refine GT_st rfl rfl rfl rfl (V_pick_t rfl rfl rfl) ?_
            refine GT_st rfl rfl rfl rfl (V_index rfl rfl rfl Try.underlying91 sz_4 (k := k) rfl hkl rfl) ?_
            refine GT_storeOwn (enc := eB) (q := k) (xx := under1 p plate frm (ofS (d.getD k default) side)) rfl rfl rfl rfl rfl rfl (by rw [hu1]; simp [eB, h4, Value.cells]) sz_4 hO eB_len eB_one (by omega) (by decide) (fun _ _ => GR_nil) (fun I2 hO2 => ?_)
            refine GT_nil ?_
            refine GE_inBlock ?_
            refine GE_slots (L' := [(0, _), (1, _), (2, _), (7, _), (20, _), (21, _), (22, _), (36, _), (37, _), (54, _), (55, _), (56, _)]) ⟨rfl, rfl, rfl, rfl, rfl, rfl, rfl, rfl, rfl, rfl, rfl, rfl, trivial⟩ ?_
            refine GE_plain (.st 0 (.ld 1 [] .nil)) rfl ?_
            refine GT_st rfl rfl rfl rfl (V_add rfl rfl rfl (wrap_i64 (by omega))) ?_
            refine GT_ldv rfl rfl rfl rfl rfl (V_move rfl rfl) (GR_nil) ?_
            refine GT_nil ?_
            exact GE_to (ih (k + 1, _, I2) ⟨by dsimp only; omega, by simpa using hll, fun q hq => by dsimp only; rw [getD_set (by omega)]; by_cases e : q = k; rw [if_pos e, e]; exact (under_get hkl).symm; rw [if_neg e]; exact hlq q (by omega), hO2⟩ (by dsimp only; omega)) ⟨rfl, rfl, rfl, rfl, rfl, rfl, rfl, trivial⟩ HS.last
          · skip
            refine GT_skip rfl rfl rfl rfl rfl (by decide) rfl rfl ?_
            refine GT_skip rfl rfl rfl rfl rfl (by decide) rfl rfl ?_
            refine GT_skip rfl rfl rfl rfl rfl (by decide) rfl rfl ?_
            refine GT_st rfl rfl rfl rfl (V_pick_f rfl rfl rfl) ?_
            refine GT_st rfl rfl rfl rfl (V_index rfl rfl rfl Try.underlying91 sz_4 (k := k) rfl hkl rfl) ?_
            refine GT_storeOwn (enc := eB) (q := k) (xx := under1 p plate frm (ofS (d.getD k default) side)) rfl rfl rfl rfl rfl rfl (by rw [hu1]; simp [eB, h4, Value.cells]) sz_4 hO eB_len eB_one (by omega) (by decide) (fun _ _ => GR_nil) (fun I2 hO2 => ?_)
            refine GT_nil ?_
            refine GE_inBlock ?_
            refine GE_slots (L' := [(0, _), (1, _), (2, _), (7, _), (20, _), (21, _), (22, _), (36, _), (37, _), (54, _), (55, _), (56, _)]) ⟨rfl, rfl, rfl, rfl, rfl, rfl, rfl, rfl, rfl, rfl, rfl, rfl, trivial⟩ ?_
            refine GE_plain (.st 0 (.ld 1 [] .nil)) rfl ?_
            refine GT_st rfl rfl rfl rfl (V_add rfl rfl rfl (wrap_i64 (by omega))) ?_
            refine GT_ldv rfl rfl rfl rfl rfl (V_move rfl rfl) (GR_nil) ?_
            refine GT_nil ?_
            exact GE_to (ih (k + 1, _, I2) ⟨by dsimp only; omega, by simpa using hll, fun q hq => by dsimp only; rw [getD_set (by omega)]; by_cases e : q = k; rw [if_pos e, e]; exact (under_get hkl).symm; rw [if_neg e]; exact hlq q (by omega), hO2⟩ (by dsimp only; omega)) ⟨rfl, rfl, rfl, rfl, rfl, rfl, rfl, trivial⟩ HS.last
      · exact ⟨by dsimp only; omega, by dsimp only; omega, by dsimp only; omega, rfl⟩
    · obtain rfl : k = d.length := (by omega); obtain rfl := ext_getD (by omega) (fun q hq => hlq q (by omega))
      refine GE_exit rfl ?_
      refine GE_seq ?_
      refine GE_slots (L' := [(7, _)]) ⟨rfl, trivial⟩ ?_
      refine GE_plain (.st 0 (.st 1 .nil)) rfl ?_
      refine GT_st rfl rfl rfl rfl (V_move rfl rfl) ?_
      refine GT_st rfl rfl rfl rfl (V_assign rfl rfl) ?_
      refine GT_nil ?_
      refine GE_ret Try.func64 rfl (fun w hw => ⟨(b16, I1), hO, rfl, hw⟩)
      skip
  · exact ⟨Nat.zero_le _, by simp, fun q hq => absurd hq (Nat.not_lt_zero _), Own.made (x := false) rfl (Nat.le_trans hdl (by decide))⟩
end
end Go.Proofs.Ytfaggcmcfhljpaa
