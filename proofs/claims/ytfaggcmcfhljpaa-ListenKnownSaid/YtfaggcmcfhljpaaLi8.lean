/- Which causes are left, walked. -/
import Derived.Test.YtfaggcmcfhljpaaLi7
namespace Go.Proofs.Ytfaggcmcfhljpaa
open Go.Sx Go.Proofs

/-- a cause where it lies -/
structure SusA where
  x : Sus
  A : Option Addr
  n : Nat
  c : Nat
instance : Inhabited SusA := ⟨⟨default, none, 0, 0⟩⟩
def eSus (y : SusA) : List Value := [I y.x.plate, I y.x.frm, .slice y.A y.n y.c]
theorem eSus_len (y : SusA) : (eSus y).length = 3 := rfl
theorem eSus_one : ∀ x, ∀ u ∈ eSus x, u.oneCell' = true := by intro x u hu; simp only [eSus, List.mem_cons, List.not_mem_nil, or_false] at hu; rcases hu with rfl | rfl | rfl <;> rfl
/-- among the blocks I lie the discs that have the causes of l -/
def Hold (I : Items) (l : List SusA) : Prop := ∀ w0 M w, SH w0 M I w → ∀ y ∈ l, RdL w 1 eB y.A y.x.has
theorem Hold.nil {I : Items} : Hold I [] := fun _ _ _ _ _ h => by cases h
theorem Hold.snoc {I Ix : Items} {l : List SusA} {y : SusA} {t : TypeId} (h : Hold I l) (hx : Own 1 t eB y.x.has (.slice y.A y.n y.c) Ix) : Hold (Ix ++ I) (l ++ [y]) := by
  intro w0 M w m z hz
  rcases List.mem_append.1 hz with hz | hz
  · exact h w0 M w (m.chunk (I := I)) z hz
  · rw [List.mem_singleton.1 hz]; exact hx.rdH eB_len m
/-- l, where it lies, is the list of causes xs -/
structure LeftL (d : List Dsc) (xs : List Sus) (l : List SusA) (Al : Option Addr) (cl : Nat) (Il Ih : Items) : Prop where
  eq : l.map SusA.x = xs
  own : Own 3 93 eSus l (.slice Al l.length cl) Il
  hold : Hold Ih l
  n : ∀ y ∈ l, y.n = d.length ∧ y.x.has.length = d.length
theorem LeftL.nil {d : List Dsc} : LeftL d [] [] none 0 [] [] := ⟨rfl, Own.nil, Hold.nil, fun y h => by cases h⟩
theorem LeftL.len {d : List Dsc} {xs : List Sus} {l : List SusA} {Al : Option Addr} {cl : Nat} {Il Ih : Items} (h : LeftL d xs l Al cl Il Ih) : l.length = xs.length := by rw [← h.eq, List.length_map]
structure LeftY where
  g : Nat
  A3 : Option Addr
  c3 : Nat
  I3 : Items
  A4 : Option Addr
  c4 : Nat
  I4 : Items
  l : List SusA
  Al : Option Addr
  cl : Nat
  Il : Items
  Ih : Items
structure LeftOk (p : List Plt) (d : List Dsc) (side : Int) (h : List Hrg) (y : LeftY) : Prop where
  o3 : Own 1 2 eI (serS d) (.slice y.A3 d.length y.c3) y.I3
  o4 : Own 1 3 eI (stmS d side) (.slice y.A4 d.length y.c4) y.I4
  l : LeftL d (leftS p d side h) y.l y.Al y.cl y.Il y.Ih
def LeftY.items (y : LeftY) (A : Option Addr) (np n c : Nat) : Items := (y.g, blk (roomC A y.A3 y.A4 np n c y.c3 y.c4) 101) :: (y.I3 ++ (y.I4 ++ (y.Il ++ y.Ih)))

section
variable {p : List Plt} {d : List Dsc} {h : List Hrg} {A A2 A5 : Option Addr} {c c2 c5 : Nat} {side : Int} {w : World}
theorem C_all {g : Nat} : Con Try.prog 48 [ptr g 0] w (fun _ : Nat => True) (fun bb => .func (.func 63) #[] #[ptr bb 0]) (fun bb => [(bb, blk [ptr g 0] 86)]) := by
  refine Ret_of (vs := [_]) hm none' Try.func48 rfl Try.ntmps48 rfl ?_
  dsimp only [slotsOf]
  refine GE_seq ?_
  refine GE_plain (.ld 0 [] (.st 1 .nil)) rfl ?_
  refine GT_box (z := [_]) rfl rfl rfl rfl rfl rfl rfl (fun _ => GR_nil) (fun b1 => ?_)
  refine GT_st rfl rfl rfl rfl (V_assign rfl rfl) ?_
  refine GT_nil ?_
  refine GE_seq ?_
  refine GE_plain (.st 0 (.st 1 .nil)) rfl ?_
  refine GT_st rfl rfl rfl rfl (V_makeFunc rfl rfl rfl) ?_
  refine GT_st rfl rfl rfl rfl (V_assign rfl rfl) ?_
  refine GT_nil ?_
  refine GE_ret Try.func48 rfl (fun w hw => ⟨b1, trivial, rfl, hw⟩)
  skip
/-- where the hearings' discs lie -/
def Idx (d : List Dsc) (h : List Hrg) (k : Nat) (l : List Int) : Prop := l.length = h.length ∧ ∀ q, q < k → known d (h.getD q default).ser = true ∧ idxS d (h.getD q default).ser < d.length ∧ l.getD q default = idxS d (h.getD q default).ser
theorem agree_take {x : Sus} {k : Nat} (hk : k < h.length) : agree d (h.take (k + 1)) x = (agree d (h.take k) x && agree1 d x (h.getD k default)) := by
  unfold agree
  rw [List.take_succ_eq_append_getElem hk, List.all_append]
  simp [List.getD, hk]
theorem agree_bad {x : Sus} {k : Nat} (hk : k < h.length) (hb : agree1 d x (h.getD k default) = false) : agree d h x = false := by
  rw [← Bool.not_eq_true]
  unfold agree
  intro q
  have := List.all_eq_true.1 q (h.getD k default) (by simp [List.getD, hk])
  rw [hb] at this; cases this

theorem j5 {a b c d : Nat × Obj} {I J K G : Items} : (a :: b :: c :: d :: (I ++ (J ++ K))) ++ G = a :: b :: c :: d :: (I ++ (J ++ (K ++ G))) := by simp
theorem j6 {a b c d : Nat × Obj} {I J K M G : Items} : (a :: b :: c :: d :: (I ++ (J ++ (K ++ M)))) ++ G = a :: b :: c :: d :: (I ++ (J ++ (K ++ (M ++ G)))) := by simp
set_option maxRecDepth 10000 in
set_option maxHeartbeats 2000000 in
theorem C_left (hp : RdL w 7 ePlt A p) (hwf : ∀ x ∈ p, Plt.wf x) (hd : RdL w 7 eDsc A2 d) (hdf : ∀ x ∈ d, Dsc.wf x) (hh : RdL w 2 eHrg A5 h) :
    Con Try.prog 46 [.slice A p.length c, .slice A2 d.length c2, I side, .slice A5 h.length c5] w (fun o : Option LeftY => match o with | none => hearE p d side h ≠ 0 | some y => hearE p d side h = 0 ∧ LeftOk p d side h y)
      (fun o => match o with | none => .tuple #[.pointer none, .slice none 0 0, I (hearE p d side h)] | some y => .tuple #[ptr y.g 0, .slice y.Al y.l.length y.cl, I 0]) (fun o => match o with | none => [] | some y => y.items A p.length d.length c) := by
  by_cases hb : beginE p d side = 0
  · have hR := beginE_zero.1 hb
    have hE : hearE p d side h = if 200 < h.length then 6 else if h.all (fun y => known d y.ser) then 0 else 5 := if_pos hb
    have hls := serS_len d
    have hlm := stmS_len d side
    have hdl := hR.dl
    refine Ret_of (vs := [_, _, _, _]) hm none' Try.func46 rfl Try.ntmps46 rfl ?_
    dsimp only [slotsOf]
    refine GE_seq ?_
    refine GE_plain (.ld 0 [] (.st 1 (.st 2 (.st 3 .nil)))) rfl ?_
    refine GT_box (z := [_]) rfl rfl rfl rfl rfl rfl rfl (fun _ => GR_nil) (fun b7 => ?_)
    refine GT_st rfl rfl rfl rfl (V_assign rfl rfl) ?_
    refine GT_st rfl rfl rfl rfl (V_assign rfl rfl) ?_
    refine GT_st rfl rfl rfl rfl (V_assign rfl rfl) ?_
    refine GT_nil ?_
    refine GE_scope ?_
    refine GE_seq ?_
    refine GE_plain (.st 0 (.st 1 (.st 2 (.ld 3 [] (.st 4 (.st 5 (.st 6 (.st 7 (.st 8 .nil))))))))) rfl ?_
    refine GT_st rfl rfl rfl rfl (V_move rfl rfl) ?_
    refine GT_st rfl rfl rfl rfl (V_move rfl rfl) ?_
    refine GT_st rfl rfl rfl rfl (V_move rfl rfl) ?_
    refine GT_call rfl rfl rfl rfl rfl rfl rfl rfl rn_47 (fun w hw => C_newRoom_ok (hp.sh hw) hwf (hd.sh hw) hdf hR) (fun _ _ => GR_nil) (fun r hr => ?_)
    obtain ⟨g, ⟨A3, c3, I3⟩, A4, c4, I4⟩ := r; obtain ⟨hO3, hO4⟩ := hr; dsimp only at hO3 hO4 ⊢; rw [hls] at hO3; rw [hlm] at hO4
    refine GT_st rfl rfl rfl rfl (V_move rfl rfl) ?_
    refine GT_st rfl rfl rfl rfl (V_extract rfl rfl rfl) ?_
    refine GT_st rfl rfl rfl rfl (V_extract rfl rfl rfl) ?_
    refine GT_st rfl rfl rfl rfl (V_assign rfl rfl) ?_
    refine GT_st rfl rfl rfl rfl (V_assign rfl rfl) ?_
    refine GT_nil ?_
    refine GE_seq ?_
    refine GE_seq ?_
    refine GE_slots (L' := [(7, _), (8, _), (9, _), (10, _), (11, _), (12, _)]) ⟨rfl, rfl, rfl, rfl, rfl, rfl, trivial⟩ ?_
    refine GE_plain (.st 0 (.st 1 .nil)) rfl ?_
    refine GT_st rfl rfl rfl rfl (V_move rfl rfl) ?_
    refine GT_st rfl rfl rfl rfl (V_neq rfl rfl rfl) ?_
    refine GT_nil ?_
    first | refine GE_condNot rfl (fun h0 => ?_) (fun h0 => ?_) | refine GE_cond rfl (fun h0 => ?_) (fun h0 => ?_) | refine GE_condNotB rfl (fun h0 => ?_) (fun h0 => ?_) | refine GE_condB rfl (fun h0 => ?_) (fun h0 => ?_)
    · exact absurd rfl h0
    · skip
      refine GE_skip ?_
      refine GE_seq ?_
      refine GE_seq ?_
      refine GE_plain (.st 0 (.st 1 (.st 2 .nil))) rfl ?_
      refine GT_st rfl rfl rfl rfl (V_load rfl rfl ag_54 (CellAt.item rfl)) ?_
      refine GT_st rfl rfl rfl rfl (V_len rfl Try.underlying54 rfl) ?_
      refine GT_st rfl rfl rfl rfl (V_gtr rfl rfl rfl) ?_
      refine GT_nil ?_
      first | refine GE_condNot rfl (fun h1 => ?_) (fun h1 => ?_) | refine GE_cond rfl (fun h1 => ?_) (fun h1 => ?_) | refine GE_condNotB rfl (fun h1 => ?_) (fun h1 => ?_) | refine GE_condB rfl (fun h1 => ?_) (fun h1 => ?_)
      · rw [if_pos (by omega)] at hE
        refine GE_seq ?_
        refine GE_slots (L' := []) trivial ?_
        refine GE_plain (.st 0 (.st 1 (.st 2 .nil))) rfl ?_
        refine GT_st rfl rfl rfl rfl (V_assign rfl rfl) ?_
        refine GT_st rfl rfl rfl rfl (V_assign rfl rfl) ?_
        refine GT_st rfl rfl rfl rfl (V_assign rfl rfl) ?_
        refine GT_nil ?_
        refine GE_ret Try.func46 ⟨_, _, _, rfl, rfl, rfl, rfl⟩ (fun w hw => ?_)
        exact ⟨none, show hearE p d side h ≠ 0 from (by rw [hE]; decide), by rw [hE], hw.nil⟩
      · rw [if_neg (by omega)] at hE
        refine GE_skip ?_
        refine GE_seq ?_
        refine GE_slots (L' := [(7, _), (8, _), (9, _), (10, _), (11, _)]) ⟨rfl, rfl, rfl, rfl, rfl, trivial⟩ ?_
        refine GE_plain (.st 0 (.st 1 (.ld 2 [] (.ld 3 [] (.ld 4 [] .nil))))) rfl ?_
        refine GT_st rfl rfl rfl rfl (V_load rfl rfl ag_54 (CellAt.item rfl)) ?_
        refine GT_st rfl rfl rfl rfl (V_len rfl Try.underlying54 rfl) ?_
        refine GT_makeSlice rfl rfl rfl rfl rfl rfl rfl Try.underlying66 zc_3 sz_3 by_3 ⟨rfl, rfl, rfl⟩ ⟨by omega, by omega⟩ (fun _ => GR_nil) (fun b37 => ?_)
        refine GT_alloc rfl rfl rfl rfl rfl zc_66 (fun _ => GR_nil) (fun b13 => ?_)
        refine GT_store (vs := [_]) (l' := [_]) rfl rfl rfl rfl rfl rfl rfl sz_66 rfl rfl (Nat.le_of_ble_eq_true rfl) rfl (GR_nil) ?_
        refine GT_nil ?_
        refine GE_seq ?_
        refine GE_seq ?_
        refine GE_plain (.st 0 (.st 1 (.st 2 .nil))) rfl ?_
        refine GT_st rfl rfl rfl rfl (V_load rfl rfl ag_54 (CellAt.item rfl)) ?_
        refine GT_st rfl rfl rfl rfl (V_len rfl Try.underlying54 rfl) ?_
        refine GT_st rfl rfl rfl rfl (V_move rfl rfl) ?_
        refine GT_nil ?_
        refine GE_block ?_
        refine GE_to (GE_loop (ι := Nat × List Int × Items) (fun x => h.length - x.1) (fun x => [(7, ptr b7 0), (11, ptr g 0), (13, ptr b13 0), (38, .slice A5 h.length c5), (39, I h.length), (40, I x.1)]) (fun x => x.2.2 ++ ((b13, blk [.slice (some ⟨b37, 0, none⟩) h.length h.length] 66) :: (b7, blk [.slice A5 h.length c5] 54) :: (g, blk (roomC A A3 A4 p.length d.length c c3 c4) 101) :: (I3 ++ I4))) (fun x => x.1 ≤ h.length ∧ Idx d h x.1 x.2.1 ∧ Own 1 3 eI x.2.1 (.slice (some ⟨b37, 0, none⟩) h.length h.length) x.2.2) ?_ (0, List.replicate h.length 0, [(b37, blk ((List.replicate h.length [I 0]).flatten) 3)]) ?_) ⟨rfl, rfl, rfl, rfl, rfl, rfl, trivial⟩ (show HS _ _ ([(b37, blk ((List.replicate h.length [I 0]).flatten) 3)] ++ _) from HS.chunk (HS.cons rfl (HS.cons rfl (HS.cons rfl (HS.chunk HS.last)))))
        · rintro ⟨k, li, Ii⟩ ⟨hk, hix, hOi⟩ ih; dsimp only at hk hix hOi ih ⊢; have hil := hix.1
          refine GE_seq ?_
          refine GE_plain (.st 0 .nil) rfl ?_
          refine GT_st rfl rfl rfl rfl (V_lss rfl rfl rfl) ?_
          refine GT_nil ?_
          refine GE_seq ?_
          first | refine GE_condNot rfl (fun h2 => ?_) (fun h2 => ?_) | refine GE_cond rfl (fun h2 => ?_) (fun h2 => ?_) | refine GE_condNotB rfl (fun h2 => ?_) (fun h2 => ?_) | refine GE_condB rfl (fun h2 => ?_) (fun h2 => ?_)
          · have hkl : k < h.length := (by omega)
            refine GE_skip ?_
            refine GE_seq ?_
            refine GE_block ?_
            refine GE_seq ?_
            refine GE_plain (.st 0 (.st 1 (.st 2 (.ld 3 [] (.st 4 (.ld 5 [] .nil)))))) rfl ?_
            refine GT_st rfl rfl rfl rfl (V_move rfl rfl) ?_
            refine GT_st rfl rfl rfl rfl (V_index rfl rfl rfl Try.underlying54 sz_61 (k := k) rfl hkl (hh.isSome hkl)) ?_
            refine GT_st rfl rfl rfl rfl (V_loadN (vs := [_, _]) rfl rfl ag_61 sz_61 rfl (hh.ats noM hkl)) ?_
            refine GT_alloc rfl rfl rfl rfl rfl zc_61 (fun _ => GR_nil) (fun b15 => ?_)
            refine GT_st rfl rfl rfl rfl (V_assign rfl rfl) ?_
            refine GT_store (vs := [_, _]) (l' := [_, _]) rfl rfl rfl rfl rfl rfl rfl sz_61 rfl rfl (Nat.le_of_ble_eq_true rfl) rfl (GR_nil) ?_
            refine GT_nil ?_
            refine GE_seq ?_
            refine GE_slots (L' := [(7, _), (11, _), (13, _), (14, _), (15, _), (38, _), (39, _), (40, _)]) ⟨rfl, rfl, rfl, rfl, rfl, rfl, rfl, rfl, trivial⟩ ?_
            refine GE_drawn (.st 0 (.st 1 (.st 2 (.st 3 (.st 4 (.st 5 (.ld 6 [] (.st 7 (.st 8 (.st 9 (.st 10 (.st 11 .nil)))))))))))) [6] (by decide +kernel) ?_
            refine GT_st rfl rfl rfl rfl (V_move rfl rfl) ?_
            first | refine GT_st rfl rfl rfl rfl (V_nilCheck rfl rfl) ?_ | refine GT_st rfl rfl rfl rfl (V_nilCheck_func rfl rfl) ?_ | refine GT_st rfl rfl rfl rfl (V_nilCheck_yield rfl rfl) ?_
            first | refine GT_st rfl rfl rfl rfl (V_field rfl rfl fo_101_1) ?_ | refine GT_st rfl rfl rfl rfl (V_fieldA rfl rfl fo_101_1) ?_
            refine GT_st rfl rfl rfl rfl (V_load rfl rfl ag_42 (CellAt.item rfl)) ?_
            first | refine GT_st rfl rfl rfl rfl (V_field rfl rfl fo_61_0) ?_ | refine GT_st rfl rfl rfl rfl (V_fieldA rfl rfl fo_61_0) ?_
            refine GT_st rfl rfl rfl rfl (V_load rfl rfl ag_2 (CellAt.item rfl)) ?_
            refine GT_call rfl rfl rfl rfl rfl rfl rfl rfl rn_61 (fun w hw => C_slices_BinarySearch (p := p) (hO3.rdH eI_len hw) hR.dsok hdl rfl) (fun _ _ => GR_nil) (fun i hi => ?_)
            refine GT_st rfl rfl rfl rfl (V_move rfl rfl) ?_
            refine GT_st rfl rfl rfl rfl (V_extract rfl rfl rfl) ?_
            refine GT_st rfl rfl rfl rfl (V_extract rfl rfl rfl) ?_
            refine GT_st rfl rfl rfl rfl (V_assign rfl rfl) ?_
            refine GT_st rfl rfl rfl rfl (V_assign rfl rfl) ?_
            refine GT_nil ?_
            refine GE_seq ?_
            refine GE_seq ?_
            refine GE_slots (L' := [(7, _), (11, _), (13, _), (14, _), (16, _), (17, _), (38, _), (39, _), (40, _)]) ⟨rfl, rfl, rfl, rfl, rfl, rfl, rfl, rfl, rfl, trivial⟩ ?_
            refine GE_plain (.st 0 (.st 1 .nil)) rfl ?_
            refine GT_st rfl rfl rfl rfl (V_move rfl rfl) ?_
            first | refine GT_st rfl rfl rfl rfl (V_not rfl rfl) ?_ | refine GT_st rfl rfl rfl rfl (V_notB rfl rfl) ?_
            refine GT_nil ?_
            first | refine GE_condNot rfl (fun h3 => ?_) (fun h3 => ?_) | refine GE_cond rfl (fun h3 => ?_) (fun h3 => ?_) | refine GE_condNotB rfl (fun h3 => ?_) (fun h3 => ?_) | refine GE_condB rfl (fun h3 => ?_) (fun h3 => ?_)
            · have hbad : known d (h.getD k default).ser = false := (by simpa using h3); rw [if_neg (fun q => by have := List.all_eq_true.1 q (h.getD k default) (by simp [List.getD, hkl]); rw [hbad] at this; cases this)] at hE
              refine GE_seq ?_
              refine GE_slots (L' := []) trivial ?_
              refine GE_plain (.st 0 (.st 1 (.st 2 .nil))) rfl ?_
              refine GT_st rfl rfl rfl rfl (V_assign rfl rfl) ?_
              refine GT_st rfl rfl rfl rfl (V_assign rfl rfl) ?_
              refine GT_st rfl rfl rfl rfl (V_assign rfl rfl) ?_
              refine GT_nil ?_
              refine GE_ret Try.func46 ⟨_, _, _, rfl, rfl, rfl, rfl⟩ (fun w hw => ?_)
              exact ⟨none, show hearE p d side h ≠ 0 from (by rw [hE]; decide), by rw [hE], hw.nil⟩
            · have hkn : known d (h.getD k default).ser = true := (by simpa using h3); obtain ⟨hi1, hi2, hi3⟩ := hi hkn
              refine GE_skip ?_
              refine GE_plain (.st 0 (.st 1 (.st 2 (.st 3 (.ld 4 [] .nil))))) rfl ?_
              refine GT_st rfl rfl rfl rfl (V_load rfl rfl ag_66 (CellAt.item rfl)) ?_
              refine GT_st rfl rfl rfl rfl (V_move rfl rfl) ?_
              refine GT_st rfl rfl rfl rfl (V_move rfl rfl) ?_
              refine GT_st rfl rfl rfl rfl (V_index rfl rfl rfl Try.underlying66 sz_3 (k := k) rfl hkl rfl) ?_
              refine GT_storeOwn (enc := eI) (q := k) (xx := (i : Int)) rfl rfl rfl rfl rfl rfl rfl sz_3 hOi eI_len eI_one (by omega) (by decide) (fun _ _ => GR_nil) (fun Ii2 hOi2 => ?_)
              refine GT_nil ?_
              refine GE_inBlock ?_
              refine GE_slots (L' := [(7, _), (11, _), (13, _), (38, _), (39, _), (40, _)]) ⟨rfl, rfl, rfl, rfl, rfl, rfl, trivial⟩ ?_
              refine GE_plain (.st 0 (.ld 1 [] .nil)) rfl ?_
              refine GT_st rfl rfl rfl rfl (V_add rfl rfl rfl (wrap_i64 (by omega))) ?_
              refine GT_ldv rfl rfl rfl rfl rfl (V_move rfl rfl) (GR_nil) ?_
              refine GT_nil ?_
              exact GE_to (ih (k + 1, _, Ii2) ⟨by dsimp only; omega, ⟨by simpa using hil, fun q hq => by dsimp only; rw [getD_set (by omega)]; rcases Nat.lt_or_ge q k with r | r; rw [if_neg (by omega)]; exact hix.2 q r; obtain rfl : q = k := (by omega); rw [if_pos rfl]; exact ⟨hkn, by omega, by omega⟩⟩, hOi2⟩ (by dsimp only; omega)) ⟨rfl, rfl, rfl, rfl, rfl, rfl, trivial⟩ (HS.chunk (HS.cons rfl (HS.cons rfl (HS.cons rfl (HS.chunk HS.last)))))
          · obtain rfl : k = h.length := (by omega); have hE0 : hearE p d side h = 0 := hearE_zero.2 ⟨hR, by omega, fun y hy => (by obtain ⟨q, hq, rfl⟩ := List.getElem_of_mem hy; have := (hix.2 q hq).1; simpa [List.getD, hq] using this)⟩
            refine GE_exit rfl ?_
            refine GE_seq ?_
            refine GE_slots (L' := [(7, _), (11, _), (13, _)]) ⟨rfl, rfl, rfl, trivial⟩ ?_
            refine GE_plain (.ld 0 [] .nil) rfl ?_
            refine GT_alloc rfl rfl rfl rfl rfl zc_87 (fun _ => GR_nil) (fun b18 => ?_)
            refine GT_nil ?_
            refine GE_seq ?_
            refine GE_label ?_
            refine GE_seq ?_
            refine GE_seq ?_
            refine GE_plain (.st 0 (.ld 1 [] .nil)) rfl ?_
            refine GT_st rfl rfl rfl rfl (V_move rfl rfl) ?_
            refine GT_call rfl rfl rfl rfl rfl rfl rfl rfl rn_48 (fun w hw => C_all) (fun _ _ => GR_nil) (fun bb _ => ?_)
            refine GT_nil ?_
            refine GE_block ?_
            refine GE_range rfl rfl rn_63 (fun T l5 q r0 hr0 hT hlk w hw => ?_)
            refine (C_all1 (p := p) (d := d) (side := side) (c := c) (c3 := c3) (c4 := c4) (g := g) (lp := l5) (J := (l5, .loop r0) :: (b7, blk [.slice A5 h.length c5] 54) :: (b13, blk [.slice (some ⟨b37, 0, none⟩) h.length h.length] 66) :: (b18, blk [.slice none 0 0] 87) :: (Ii ++ ([] ++ []))) (G := [(q, .deferred (some []))])
              (Q := fun pre J => ∃ l Al cl Il Ih, LeftL d (pre.filter (agree d h)) l Al cl Il Ih ∧ J = (l5, .loop r0) :: (b7, blk [.slice A5 h.length c5] 54) :: (b13, blk [.slice (some ⟨b37, 0, none⟩) h.length h.length] 66) :: (b18, blk [.slice Al l.length cl] 87) :: (Ii ++ (Il ++ Ih))) (S := fun _ => False)
              hp hO3 hO4 hR ?_ ⟨[], none, 0, [], [], LeftL.nil, rfl⟩ (hw.hs ((show HS _ _ ((l5, .loop r0) :: (b7, _) :: (b13, _) :: (b18, _) :: (Ii ++ ((bb, _) :: (g, _) :: (I3 ++ (I4 ++ [(q, .deferred (some []))]))))) from HS.cons rfl (HS.cons rfl (HS.cons rfl (HS.cons rfl (HS.chunk (HS.cons rfl (HS.cons rfl (HS.chunk (HS.chunk (HS.cons rfl HS.nil)))))))))).eq (by simp)))).mono (fun v w' ⟨J', hJ, hw'⟩ => ?_)
            · intro pre x J Ax cx Ix hpl hx ⟨l, Al, cl, Il, Ih, hLL, hJ⟩ hOx G0; generalize (g, blk (roomC A A3 A4 p.length d.length c c3 c4) 101) :: (I3 ++ G0) = G; subst hJ; subst hr0
              have hxl := causS_len hx
              have hll := hLL.len
              have hfl := List.length_filter_le (agree d h) pre
              have hf2 : (pre ++ [x]).filter (agree d h) = pre.filter (agree d h) ++ if agree d h x then [x] else [] := (by rw [List.filter_append, List.filter_cons, List.filter_nil])
              refine yield_of inferInstance rfl rfl hT hlk rfl rfl hm ?_
              refine GE_slots (L' := [(7, ptr b7 0), (13, ptr b13 0), (18, ptr b18 0), (64, .agg #[I x.plate, I x.frm, .slice Ax d.length cx])]) ⟨rfl, rfl, rfl, rfl, trivial⟩ ?_
              refine GE_plain (.ld 0 [] (.ld 1 [] .nil)) rfl ?_
              refine GT_alloc rfl rfl rfl rfl rfl zc_93 (fun _ => GR_nil) (fun b19 => ?_)
              refine GT_store (vs := [_, _, _]) (l' := [_, _, _]) rfl rfl rfl rfl rfl rfl rfl sz_93 rfl rfl (Nat.le_of_ble_eq_true rfl) rfl (GR_nil) ?_
              refine GT_nil ?_
              refine GE_beginRound rfl ?_
              refine GE_block ?_
              refine GE_seq ?_
              refine GE_seq ?_
              refine GE_gen (l := l5) (fun ob hob => ?_)
              refine GE_plain (.st 0 (.st 1 (.st 2 .nil))) rfl ?_
              refine GT_st rfl rfl rfl rfl (V_load rfl rfl ag_54 (CellAt.item rfl)) ?_
              refine GT_st rfl rfl rfl rfl (V_len rfl Try.underlying54 rfl) ?_
              refine GT_st rfl rfl rfl rfl (V_move rfl rfl) ?_
              refine GT_nil ?_
              refine GE_block ?_
              refine GE_to (GE_loop (ι := Nat) (fun k => h.length - k) (fun k => [(13, ptr b13 0), (18, ptr b18 0), (19, ptr b19 0), (65, .slice A5 h.length c5), (66, I h.length), (67, I k)]) (fun k => (l5, ob) :: (b19, blk [I x.plate, I x.frm, .slice Ax d.length cx] 93) :: (Ix ++ ((b7, blk [.slice A5 h.length c5] 54) :: (b13, blk [.slice (some ⟨b37, 0, none⟩) h.length h.length] 66) :: (b18, blk [.slice Al l.length cl] 87) :: (Ii ++ (Il ++ (Ih ++ G)))))) (fun k => k ≤ h.length ∧ agree d (h.take k) x = true) ?_ 0 ?_) ⟨rfl, rfl, rfl, rfl, rfl, rfl, trivial⟩ (HS.cons rfl (HS.cons rfl (HS.chunk (HS.cons rfl (HS.cons rfl (HS.cons rfl (HS.chunk (HS.chunk (HS.chunk HS.last)))))))))
              · rintro k ⟨hk, hag⟩ ih
                refine GE_seq ?_
                refine GE_plain (.st 0 .nil) rfl ?_
                refine GT_st rfl rfl rfl rfl (V_lss rfl rfl rfl) ?_
                refine GT_nil ?_
                refine GE_seq ?_
                first | refine GE_condNot rfl (fun h5 => ?_) (fun h5 => ?_) | refine GE_cond rfl (fun h5 => ?_) (fun h5 => ?_) | refine GE_condNotB rfl (fun h5 => ?_) (fun h5 => ?_) | refine GE_condB rfl (fun h5 => ?_) (fun h5 => ?_)
                · have hkl : k < h.length := (by omega); obtain ⟨hix1, hix2, hix3⟩ := hix.2 k hkl
                  refine GE_skip ?_
                  refine GE_seq ?_
                  refine GE_block ?_
                  refine GE_seq ?_
                  refine GE_plain (.st 0 (.st 1 (.st 2 (.ld 3 [] (.st 4 (.ld 5 [] .nil)))))) rfl ?_
                  refine GT_st rfl rfl rfl rfl (V_move rfl rfl) ?_
                  refine GT_st rfl rfl rfl rfl (V_index rfl rfl rfl Try.underlying54 sz_61 (k := k) rfl hkl (hh.isSome hkl)) ?_
                  refine GT_st rfl rfl rfl rfl (V_loadN (vs := [_, _]) rfl rfl ag_61 sz_61 rfl ((by intro i v hi; rw [add_add']; exact CellAt.old (hh.cell k _ (getD_of default hkl) i v hi) (fun e => e)))) ?_
                  refine GT_alloc rfl rfl rfl rfl rfl zc_61 (fun _ => GR_nil) (fun b21 => ?_)
                  refine GT_st rfl rfl rfl rfl (V_assign rfl rfl) ?_
                  refine GT_store (vs := [_, _]) (l' := [_, _]) rfl rfl rfl rfl rfl rfl rfl sz_61 rfl rfl (Nat.le_of_ble_eq_true rfl) rfl (GR_nil) ?_
                  refine GT_nil ?_
                  refine GE_seq ?_
                  refine GE_slots (L' := [(13, _), (18, _), (19, _), (20, _), (21, _), (65, _), (66, _), (67, _)]) ⟨rfl, rfl, rfl, rfl, rfl, rfl, rfl, rfl, trivial⟩ ?_
                  refine GE_drawn (.st 0 (.st 1 (.st 2 (.st 3 (.st 4 (.st 5 (.st 6 (.st 7 (.st 8 (.st 9 (.st 10 .nil))))))))))) [] (by decide +kernel) ?_
                  first | refine GT_st rfl rfl rfl rfl (V_field rfl rfl fo_93_1) ?_ | refine GT_st rfl rfl rfl rfl (V_fieldA rfl rfl fo_93_1) ?_
                  refine GT_st rfl rfl rfl rfl (V_load rfl rfl ag_91 (CellAt.item rfl)) ?_
                  refine GT_st rfl rfl rfl rfl (V_load rfl rfl ag_66 (CellAt.item rfl)) ?_
                  refine GT_st rfl rfl rfl rfl (V_move rfl rfl) ?_
                  refine GT_st rfl rfl rfl rfl (V_index rfl rfl rfl Try.underlying66 sz_3 (k := k) rfl hkl rfl) ?_
                  refine GT_st rfl rfl rfl rfl (V_load rfl rfl ag_3 (CellAt.own0 hOi eI_len (by omega) rfl)) ?_
                  refine GT_st rfl rfl rfl rfl (V_index rfl rfl rfl Try.underlying91 sz_4 (k := idxS d (h.getD k default).ser) hix3 hix2 (hOx.isSome (k := idxS d (h.getD k default).ser) (by omega))) ?_
                  refine GT_st rfl rfl rfl rfl (V_load rfl rfl ag_4 (CellAt.own0 hOx eB_len (by omega) rfl)) ?_
                  first | refine GT_st rfl rfl rfl rfl (V_field rfl rfl fo_61_1) ?_ | refine GT_st rfl rfl rfl rfl (V_fieldA rfl rfl fo_61_1) ?_
                  refine GT_st rfl rfl rfl rfl (V_load rfl rfl ag_4 (CellAt.item rfl)) ?_
                  refine GT_st rfl rfl rfl rfl (V_neqBB rfl rfl rfl Try.underlying4) ?_
                  refine GT_nil ?_
                  first | refine GE_condNot rfl (fun h6 => ?_) (fun h6 => ?_) | refine GE_cond rfl (fun h6 => ?_) (fun h6 => ?_) | refine GE_condNotB rfl (fun h6 => ?_) (fun h6 => ?_) | refine GE_condB rfl (fun h6 => ?_) (fun h6 => ?_)
                  · have ha1 : agree1 d x (h.getD k default) = false := (by simpa [agree1] using h6)
                    rw [agree_bad hkl ha1, if_neg (by decide), List.append_nil] at hf2
                    have hLL3 : LeftL d ((pre ++ [x]).filter (agree d h)) l Al cl Il Ih := (by rw [hf2]; exact hLL)
                    refine GE_exit rfl ?_
                    subst hob
                    first
                      | (refine GE_leave none rfl (fun w hw => ⟨_, ⟨true, _, rfl, rfl, fun _ => ⟨_, _, _, _, _, hLL2, rfl⟩, fun q => by cases q⟩, ?_⟩); rw [j6]; exact hw.hs (HS.cons rfl (HS.cons rfl (HS.cons rfl (HS.cons rfl (HS.chunk (HS.chunk (HS.chunk (HS.chunk HS.last)))))))))
                      | (refine GE_leave none rfl (fun w hw => ⟨_, ⟨true, _, rfl, rfl, fun _ => ⟨_, _, _, _, _, hLL3, rfl⟩, fun q => by cases q⟩, ?_⟩); rw [j5]; exact hw.hs (HS.cons rfl (HS.cons rfl (HS.cons rfl (HS.cons rfl (HS.chunk (HS.chunk (HS.chunk HS.last))))))))
                  · have ha1 : agree1 d x (h.getD k default) = true := (by simpa [agree1] using h6)
                    refine GE_skip ?_
                    refine GE_inBlock ?_
                    refine GE_slots (L' := [(13, _), (18, _), (19, _), (65, _), (66, _), (67, _)]) ⟨rfl, rfl, rfl, rfl, rfl, rfl, trivial⟩ ?_
                    refine GE_plain (.st 0 (.ld 1 [] .nil)) rfl ?_
                    refine GT_st rfl rfl rfl rfl (V_add rfl rfl rfl (wrap_i64 (by omega))) ?_
                    refine GT_ldv rfl rfl rfl rfl rfl (V_move rfl rfl) (GR_nil) ?_
                    refine GT_nil ?_
                    exact GE_to (ih (k + 1) ⟨by omega, by rw [agree_take hkl, hag, ha1]; rfl⟩ (by omega)) ⟨rfl, rfl, rfl, rfl, rfl, rfl, trivial⟩ (HS.cons rfl (HS.cons rfl (HS.chunk (HS.cons rfl (HS.cons rfl (HS.cons rfl (HS.chunk (HS.chunk (HS.chunk HS.last)))))))))
                · obtain rfl : k = h.length := (by omega); rw [List.take_length] at hag; rw [hag, if_pos rfl] at hf2
                  refine GE_exit rfl ?_
                  refine GE_slots (L' := [(18, _), (19, _)]) ⟨rfl, rfl, trivial⟩ ?_
                  refine GE_plain (.st 0 (.st 1 (.ld 2 [] (.ld 3 [] (.ld 4 [] .nil))))) rfl ?_
                  refine GT_st rfl rfl rfl rfl (V_load rfl rfl ag_87 (CellAt.item rfl)) ?_
                  refine GT_st rfl rfl rfl rfl (V_loadN (vs := [_, _, _]) rfl rfl ag_93 sz_93 rfl (CellsAt.item rfl)) ?_
                  refine GT_buildSlice (z := [_, _, _]) rfl rfl rfl rfl rfl Try.underlying87 zc_93 sz_93 (by decide) rfl rfl (fun _ => GR_nil) (fun b86 => ?_)
                  refine GT_append (enc := eSus) (m := [⟨x, Ax, d.length, cx⟩]) rfl rfl rfl rfl rfl rfl rfl hLL.own (fun w m => RdL.own' m eSus_len) Try.underlying87 zc_93 sz_93 ⟨rfl, by decide⟩ by_93 ⟨by simp only [List.length_singleton]; omega, by simp only [List.length_singleton]; omega⟩ eSus_len eSus_one (fun _ _ _ _ => GR_nil) (fun Al' cl' Il' hO' => ?_)
                  have hLL2 : LeftL d ((pre ++ [x]).filter (agree d h)) (l ++ [⟨x, Ax, d.length, cx⟩]) Al' cl' Il' (Ix ++ Ih) := ⟨by rw [hf2, List.map_append, hLL.eq]; rfl, hO', hLL.hold.snoc hOx, fun y hy => by rcases List.mem_append.1 hy with hy | hy; exact hLL.n y hy; rw [List.mem_singleton.1 hy]; exact ⟨rfl, hxl⟩⟩
                  refine GT_store (vs := [_]) (l' := [_]) rfl rfl rfl rfl rfl rfl rfl sz_87 rfl rfl (Nat.le_of_ble_eq_true rfl) rfl (GR_nil) ?_
                  refine GT_nil ?_
                  refine GE_inBlock ?_
                  subst hob
                  first
                    | (refine GE_leave none rfl (fun w hw => ⟨_, ⟨true, _, rfl, rfl, fun _ => ⟨_, _, _, _, _, hLL2, rfl⟩, fun q => by cases q⟩, ?_⟩); rw [j6]; exact hw.hs (HS.cons rfl (HS.cons rfl (HS.cons rfl (HS.cons rfl (HS.chunk (HS.chunk (HS.chunk (HS.chunk HS.last)))))))))
                    | (refine GE_leave none rfl (fun w hw => ⟨_, ⟨true, _, rfl, rfl, fun _ => ⟨_, _, _, _, _, hLL3, rfl⟩, fun q => by cases q⟩, ?_⟩); rw [j5]; exact hw.hs (HS.cons rfl (HS.cons rfl (HS.cons rfl (HS.cons rfl (HS.chunk (HS.chunk (HS.chunk HS.last))))))))
              · exact ⟨Nat.zero_le _, rfl⟩
            · rcases hJ with ⟨l, Al, cl, Il, Ih, hLL, hJ'⟩ | hF
              rotate_left
              · exact hF.elim
              subst hJ'; subst hr0
              refine ⟨_, (b18, blk [.slice Al l.length cl] 87) :: (g, blk (roomC A A3 A4 p.length d.length c c3 c4) 101) :: (I3 ++ (I4 ++ (Il ++ Ih))), ?_, hw'.hs (HS.cons rfl (HS.cons rfl (HS.cons rfl (HS.cons rfl (HS.chunk (HS.chunk (HS.chunk HS.last))))))), ?_⟩
              · intro h; cases h
              refine GE_D (D' := dq [q]) ?_ rfl
              refine GE_inBlock ?_
              refine GE_seq ?_
              refine GE_slots (L' := [(11, _), (18, _)]) ⟨rfl, rfl, trivial⟩ ?_
              refine GE_drawn (.st 0 (.st 1 (.st 2 (.st 3 (.st 4 .nil))))) [] (by decide +kernel) ?_
              refine GT_st rfl rfl rfl rfl (V_move rfl rfl) ?_
              refine GT_st rfl rfl rfl rfl (V_load rfl rfl ag_87 (CellAt.item rfl)) ?_
              refine GT_st rfl rfl rfl rfl (V_assign rfl rfl) ?_
              refine GT_st rfl rfl rfl rfl (V_assign rfl rfl) ?_
              refine GT_st rfl rfl rfl rfl (V_assign rfl rfl) ?_
              refine GT_nil ?_
              refine GE_retq Try.func46 ⟨_, _, _, rfl, rfl, rfl, rfl⟩ (fun w hw => ?_)
              exact ⟨some ⟨g, A3, c3, I3, A4, c4, I4, l, Al, cl, Il, Ih⟩, ⟨hE0, hO3, hO4, hLL⟩, rfl, hw.hs (HS.cons rfl (HS.chunk (HS.chunk (HS.chunk HS.last))))⟩
        · exact ⟨Nat.zero_le _, ⟨by simp, fun q hq => absurd hq (Nat.not_lt_zero _)⟩, Own.made (x := (0 : Int)) rfl (Nat.le_trans (show h.length ≤ 200 by omega) (by decide))⟩
  · have hE : hearE p d side h = beginE p d side := if_neg hb
    refine Ret_of (vs := [_, _, _, _]) hm none' Try.func46 rfl Try.ntmps46 rfl ?_
    dsimp only [slotsOf]
    refine GE_seq ?_
    refine GE_plain (.ld 0 [] (.st 1 (.st 2 (.st 3 .nil)))) rfl ?_
    refine GT_box (z := [_]) rfl rfl rfl rfl rfl rfl rfl (fun _ => GR_nil) (fun b7 => ?_)
    refine GT_st rfl rfl rfl rfl (V_assign rfl rfl) ?_
    refine GT_st rfl rfl rfl rfl (V_assign rfl rfl) ?_
    refine GT_st rfl rfl rfl rfl (V_assign rfl rfl) ?_
    refine GT_nil ?_
    refine GE_scope ?_
    refine GE_seq ?_
    refine GE_plain (.st 0 (.st 1 (.st 2 (.ld 3 [] (.st 4 (.st 5 (.st 6 (.st 7 (.st 8 .nil))))))))) rfl ?_
    refine GT_st rfl rfl rfl rfl (V_move rfl rfl) ?_
    refine GT_st rfl rfl rfl rfl (V_move rfl rfl) ?_
    refine GT_st rfl rfl rfl rfl (V_move rfl rfl) ?_
    refine GT_call0 rfl rfl rfl rfl rfl rfl rfl rfl rn_47 (fun w hw => C_newRoom_err (hp.sh hw) hwf (hd.sh hw) hdf hb) (GR_nil) ?_
    refine GT_st rfl rfl rfl rfl (V_move rfl rfl) ?_
    refine GT_st rfl rfl rfl rfl (V_extract rfl rfl rfl) ?_
    refine GT_st rfl rfl rfl rfl (V_extract rfl rfl rfl) ?_
    refine GT_st rfl rfl rfl rfl (V_assign rfl rfl) ?_
    refine GT_st rfl rfl rfl rfl (V_assign rfl rfl) ?_
    refine GT_nil ?_
    refine GE_seq ?_
    refine GE_seq ?_
    refine GE_slots (L' := [(7, _), (8, _), (9, _), (10, _), (11, _), (12, _)]) ⟨rfl, rfl, rfl, rfl, rfl, rfl, trivial⟩ ?_
    refine GE_plain (.st 0 (.st 1 .nil)) rfl ?_
    refine GT_st rfl rfl rfl rfl (V_move rfl rfl) ?_
    refine GT_st rfl rfl rfl rfl (V_neq rfl rfl rfl) ?_
    refine GT_nil ?_
    first | refine GE_condNot rfl (fun h0 => ?_) (fun h0 => ?_) | refine GE_cond rfl (fun h0 => ?_) (fun h0 => ?_) | refine GE_condNotB rfl (fun h0 => ?_) (fun h0 => ?_) | refine GE_condB rfl (fun h0 => ?_) (fun h0 => ?_)
    · skip
      refine GE_seq ?_
      refine GE_slots (L' := [(12, _)]) ⟨rfl, trivial⟩ ?_
      refine GE_plain (.st 0 (.st 1 (.st 2 (.st 3 .nil)))) rfl ?_
      refine GT_st rfl rfl rfl rfl (V_move rfl rfl) ?_
      refine GT_st rfl rfl rfl rfl (V_assign rfl rfl) ?_
      refine GT_st rfl rfl rfl rfl (V_assign rfl rfl) ?_
      refine GT_st rfl rfl rfl rfl (V_assign rfl rfl) ?_
      refine GT_nil ?_
      refine GE_ret Try.func46 ⟨_, _, _, rfl, rfl, rfl, rfl⟩ (fun w hw => ?_)
      exact ⟨none, by rw [hE]; exact hb, by rw [hE]; rfl, hw.nil⟩
    · exact absurd h0 hb
end
end Go.Proofs.Ytfaggcmcfhljpaa
