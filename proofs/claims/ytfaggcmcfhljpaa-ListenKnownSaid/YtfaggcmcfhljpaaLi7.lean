/- The function that yields all causes, walked. -/
import Derived.Test.YtfaggcmcfhljpaaLi6
namespace Go.Proofs.Ytfaggcmcfhljpaa
open Go.Sx Go.Proofs

section
variable (p : List Plt) (d : List Dsc) (side : Int)
/-- the causes of the first n plates -/
def cTo (n : Nat) : List Sus := (List.range n).flatMap (plate1 p d side)
def cStamp (i k : Nat) : List Sus := cTo p d side i ++ (List.range k).flatMap (stamp1 p d side i)
def cChild (i k : Nat) : List Sus := cTo p d side i ++ (List.range k).flatMap (child1 p d side i)
def cAlone (k : Nat) : List Sus := cTo p d side p.length ++ (List.range k).map (alone1 d)
end
section
variable {p : List Plt} {d : List Dsc} {side : Int}
theorem cTo_succ (n : Nat) : cTo p d side (n + 1) = cTo p d side n ++ plate1 p d side n := by simp [cTo, List.range_succ]
theorem cStamp_zero (i : Nat) : cStamp p d side i 0 = cTo p d side i := by simp [cStamp]
theorem cStamp_succ (i k : Nat) : cStamp p d side i (k + 1) = cStamp p d side i k ++ stamp1 p d side i k := by simp [cStamp, List.range_succ]
theorem cStamp_end {i : Nat} (h : (p.getD i default).kind = 3) : cStamp p d side i d.length = cTo p d side (i + 1) := by rw [cTo_succ]; unfold plate1 cStamp; rw [if_pos h]
theorem cChild_one (i : Nat) : cChild p d side i (i + 1) = cTo p d side i := by
  unfold cChild
  have : (List.range (i + 1)).flatMap (child1 p d side i) = [] := by
    rw [List.flatMap_eq_nil_iff]
    intro k hk
    rw [List.mem_range] at hk
    unfold child1; rw [if_neg (by omega)]
  rw [this, List.append_nil]
theorem cChild_succ (i k : Nat) : cChild p d side i (k + 1) = cChild p d side i k ++ child1 p d side i k := by simp [cChild, List.range_succ]
theorem cChild_end {i : Nat} (h : (p.getD i default).kind ≠ 3) : cChild p d side i p.length = cTo p d side (i + 1) := by rw [cTo_succ]; unfold plate1 cChild; rw [if_neg h]
theorem cAlone_zero : cAlone p d side 0 = cTo p d side p.length := by simp [cAlone]
theorem cAlone_succ (k : Nat) : cAlone p d side (k + 1) = cAlone p d side k ++ [alone1 d k] := by simp [cAlone, List.range_succ]
theorem cAlone_end : cAlone p d side d.length = causS p d side := rfl
theorem stamp1_yes {i k : Nat} (h : (under p d side i 0).getD k default = true) : stamp1 p d side i k = [⟨i, (d.getD k default).ser, fromK (under p d side i 0) k⟩] := if_pos h
theorem stamp1_no {i k : Nat} (h : (under p d side i 0).getD k default = false) : stamp1 p d side i k = [] := if_neg (by rw [h]; decide)
theorem stamp1_mem {i k : Nat} (hi : i < p.length) (hk : k < d.length) (h3 : (p.getD i default).kind = 3) (h : (under p d side i 0).getD k default = true) : (⟨i, (d.getD k default).ser, fromK (under p d side i 0) k⟩ : Sus) ∈ causS p d side :=
  causS_mem.2 (.inl ⟨i, hi, plate1_mem.2 (.inl ⟨h3, k, hk, h, rfl⟩)⟩)
theorem child1_mem {i k : Nat} (hi : i < p.length) (hk : k < p.length) (h3 : (p.getD i default).kind ≠ 3) (hik : i < k) (h : (p.getD k default).par = i) : (⟨i, k, under p d side i k⟩ : Sus) ∈ causS p d side :=
  causS_mem.2 (.inl ⟨i, hi, plate1_mem.2 (.inr ⟨h3, k, hk, hik, h, rfl⟩)⟩)
theorem alone1_mem {k : Nat} (hk : k < d.length) : alone1 d k ∈ causS p d side := causS_mem.2 (.inr ⟨k, hk, rfl⟩)

theorem flatMap_le {α β : Type} {f : α → List β} {c : Nat} (h : ∀ i, (f i).length ≤ c) : ∀ l : List α, (l.flatMap f).length ≤ c * l.length
  | [] => by simp
  | i :: l => by
    have := flatMap_le h l
    have := h i
    rw [List.flatMap_cons, List.length_append, List.length_cons, Nat.mul_succ]; omega
theorem stamp1_le (i k : Nat) : (stamp1 p d side i k).length ≤ 1 := by unfold stamp1; split <;> simp
theorem child1_le (i k : Nat) : (child1 p d side i k).length ≤ 1 := by unfold child1; split <;> simp
theorem plate1_le (hd : d.length ≤ 200) (hp : p.length ≤ 256) (i : Nat) : (plate1 p d side i).length ≤ 256 := by
  unfold plate1
  split
  · have := flatMap_le (stamp1_le (p := p) (d := d) (side := side) i) (List.range d.length)
    rw [List.length_range] at this; omega
  · have := flatMap_le (child1_le (p := p) (d := d) (side := side) i) (List.range p.length)
    rw [List.length_range] at this; omega
theorem cTo_len (hd : d.length ≤ 200) (hp : p.length ≤ 256) (n : Nat) : (cTo p d side n).length ≤ 256 * n := by
  have := flatMap_le (plate1_le (side := side) hd hp) (List.range n)
  rw [List.length_range] at this; exact this
theorem cStamp_len (hd : d.length ≤ 200) (hp : p.length ≤ 256) {i k : Nat} (hi : i < p.length) (hk : k < d.length) : (cStamp p d side i k).length ≤ 70000 := by
  have h1 := cTo_len (side := side) hd hp i
  have h2 := flatMap_le (stamp1_le (p := p) (d := d) (side := side) i) (List.range k)
  rw [List.length_range] at h2
  unfold cStamp; rw [List.length_append]; omega
theorem cChild_len (hd : d.length ≤ 200) (hp : p.length ≤ 256) {i k : Nat} (hi : i < p.length) (hk : k < p.length) : (cChild p d side i k).length ≤ 70000 := by
  have h1 := cTo_len (side := side) hd hp i
  have h2 := flatMap_le (child1_le (p := p) (d := d) (side := side) i) (List.range k)
  rw [List.length_range] at h2
  unfold cChild; rw [List.length_append]; omega
theorem cAlone_len (hd : d.length ≤ 200) (hp : p.length ≤ 256) {k : Nat} (hk : k < d.length) : (cAlone p d side k).length ≤ 70000 := by
  have h1 := cTo_len (side := side) hd hp p.length
  unfold cAlone; rw [List.length_append, List.length_map, List.length_range]; omega
theorem causS_le (hd : d.length ≤ 200) (hp : p.length ≤ 256) : (causS p d side).length ≤ 70000 := by
  have h1 := cTo_len (side := side) hd hp p.length
  rw [← cAlone_end]
  unfold cAlone; rw [List.length_append, List.length_map, List.length_range]; omega

set_option maxRecDepth 10000 in
set_option maxHeartbeats 2000000 in
theorem C_all1 {A A3 A4 : Option Addr} {c c3 c4 g bb lp : Nat} {w w0 : World} {J : Items} {Q : List Sus → Items → Prop} {S : Items → Prop} {I3 I4 : Items} (hp : RdL w0 7 ePlt A p) (hO3 : Own 1 2 eI (serS d) (.slice A3 d.length c3) I3) (hO4 : Own 1 3 eI (stmS d side) (.slice A4 d.length c4) I4) (hR : Room p d side)
    (hY : ∀ pre x J Ax cx Ix, pre.length ≤ 70000 → x ∈ causS p d side → Q pre J → Own 1 4 eB x.has (.slice Ax d.length cx) Ix → ∀ G, YieldTo Try.prog w0 none' lp [.agg #[I x.plate, I x.frm, .slice Ax d.length cx]] (Ix ++ (J ++ ((g, blk (roomC A A3 A4 p.length d.length c c3 c4) 101) :: (I3 ++ G)))) fun v H' => ∃ q J', v = .bool q ∧ H' = J' ++ ((g, blk (roomC A A3 A4 p.length d.length c c3 c4) 101) :: (I3 ++ G)) ∧ (q = true → Q (pre ++ [x]) J') ∧ (q = false → S J'))
    (hQ : Q [] J) {G : Items} (m : SH w0 none' (J ++ (bb, blk [ptr g 0] 86) :: (g, blk (roomC A A3 A4 p.length d.length c c3 c4) 101) :: (I3 ++ (I4 ++ G))) w) :
    Ret Try.prog 63 [.func (.yield lp) #[] #[], ptr bb 0].toArray w fun v w' => ∃ J', (Q (causS p d side) J' ∨ S J') ∧ SH w0 none' (J' ++ (bb, blk [ptr g 0] 86) :: (g, blk (roomC A A3 A4 p.length d.length c c3 c4) 101) :: (I3 ++ (I4 ++ G))) w' := by
  have hls := serS_len d
  have hdl := hR.dl
  have hpl := hR.pl
  refine Ret_ofH (vs := [_, _]) hm none' Try.func63 rfl Try.ntmps63 rfl m ?_
  dsimp only [slotsOf]
  refine GE_seq ?_
  refine GE_seq ?_
  refine GE_plain (.st 0 (.st 1 (.st 2 (.st 3 (.st 4 (.st 5 .nil)))))) rfl ?_
  refine GT_st rfl rfl rfl rfl (V_load rfl rfl ag_86 (CellAt.item rfl)) ?_
  first | refine GT_st rfl rfl rfl rfl (V_nilCheck rfl rfl) ?_ | refine GT_st rfl rfl rfl rfl (V_nilCheck_func rfl rfl) ?_ | refine GT_st rfl rfl rfl rfl (V_nilCheck_yield rfl rfl) ?_
  first | refine GT_st rfl rfl rfl rfl (V_field rfl rfl fo_101_0) ?_ | refine GT_st rfl rfl rfl rfl (V_fieldA rfl rfl fo_101_0) ?_
  refine GT_st rfl rfl rfl rfl (V_load rfl rfl ag_36 (CellAt.item rfl)) ?_
  refine GT_st rfl rfl rfl rfl (V_len rfl Try.underlying36 rfl) ?_
  refine GT_st rfl rfl rfl rfl (V_move rfl rfl) ?_
  refine GT_nil ?_
  refine GE_block ?_
  refine GE_to (GE_loop (ι := Nat × Items) (fun x => p.length - x.1) (fun x => [(0, .func (.yield lp) #[] #[]), (1, ptr bb 0), (15, .slice A p.length c), (16, I p.length), (17, I x.1)]) (fun x => x.2 ++ (bb, blk [ptr g 0] 86) :: (g, blk (roomC A A3 A4 p.length d.length c c3 c4) 101) :: (I3 ++ (I4 ++ G))) (fun x => x.1 ≤ p.length ∧ Q (cTo p d side x.1) x.2) ?_ (0, J) ?_) ⟨rfl, rfl, rfl, rfl, rfl, trivial⟩ (HS.chunk (HS.cons rfl (HS.cons rfl (HS.chunk (HS.chunk HS.last)))))
  · rintro ⟨i, J1⟩ ⟨hi, hQ1⟩ ih; dsimp only at hi hQ1 ih ⊢
    refine GE_seq ?_
    refine GE_plain (.st 0 .nil) rfl ?_
    refine GT_st rfl rfl rfl rfl (V_lss rfl rfl rfl) ?_
    refine GT_nil ?_
    refine GE_seq ?_
    first | refine GE_condNot rfl (fun h1 => ?_) (fun h1 => ?_) | refine GE_cond rfl (fun h1 => ?_) (fun h1 => ?_) | refine GE_condNotB rfl (fun h1 => ?_) (fun h1 => ?_) | refine GE_condB rfl (fun h1 => ?_) (fun h1 => ?_)
    · have hil : i < p.length := (by omega)
      refine GE_skip ?_
      refine GE_seq ?_
      refine GE_block ?_
      refine GE_seq ?_
      refine GE_plain (.st 0 (.st 1 (.st 2 (.ld 3 [] (.st 4 (.ld 5 [] .nil)))))) rfl ?_
      refine GT_st rfl rfl rfl rfl (V_move rfl rfl) ?_
      refine GT_st rfl rfl rfl rfl (V_index rfl rfl rfl Try.underlying36 sz_53 (k := i) rfl hil (hp.isSome (k := i) (by omega))) ?_
      refine GT_st rfl rfl rfl rfl (V_loadN (vs := [_, _, _, _, _, _, _]) rfl rfl ag_53 sz_53 rfl (hp.ats noM hil)) ?_
      refine GT_alloc rfl rfl rfl rfl rfl zc_53 (fun _ => GR_nil) (fun b4 => ?_)
      refine GT_st rfl rfl rfl rfl (V_assign rfl rfl) ?_
      refine GT_store (vs := [_, _, _, _, _, _, _]) (l' := [_, _, _, _, _, _, _]) rfl rfl rfl rfl rfl rfl rfl sz_53 rfl rfl (Nat.le_of_ble_eq_true rfl) rfl (GR_nil) ?_
      refine GT_nil ?_
      refine GE_seq ?_
      refine GE_seq ?_
      refine GE_slots (L' := [(0, _), (1, _), (3, _), (4, _), (15, _), (16, _), (17, _)]) ⟨rfl, rfl, rfl, rfl, rfl, rfl, rfl, trivial⟩ ?_
      refine GE_plain (.st 0 (.st 1 (.st 2 .nil))) rfl ?_
      first | refine GT_st rfl rfl rfl rfl (V_field rfl rfl fo_53_0) ?_ | refine GT_st rfl rfl rfl rfl (V_fieldA rfl rfl fo_53_0) ?_
      refine GT_st rfl rfl rfl rfl (V_load rfl rfl ag_3 (CellAt.item rfl)) ?_
      refine GT_st rfl rfl rfl rfl (V_eql rfl rfl rfl) ?_
      refine GT_nil ?_
      first | refine GE_condNot rfl (fun h2 => ?_) (fun h2 => ?_) | refine GE_cond rfl (fun h2 => ?_) (fun h2 => ?_) | refine GE_condNotB rfl (fun h2 => ?_) (fun h2 => ?_) | refine GE_condB rfl (fun h2 => ?_) (fun h2 => ?_)
      · rw [← cStamp_zero] at hQ1
        refine GE_seq ?_
        refine GE_slots (L' := [(0, _), (1, _), (3, _), (15, _), (16, _), (17, _)]) ⟨rfl, rfl, rfl, rfl, rfl, rfl, trivial⟩ ?_
        refine GE_plain (.st 0 (.st 1 (.ld 2 [] (.st 3 .nil)))) rfl ?_
        refine GT_st rfl rfl rfl rfl (V_load rfl rfl ag_86 (CellAt.item rfl)) ?_
        refine GT_st rfl rfl rfl rfl (V_move rfl rfl) ?_
        refine GT_call rfl rfl rfl rfl rfl rfl rfl rfl rn_64 (fun w hw => C_under (plate := i) (frm := 0) ⟨BlkAt.of hw, hp.sh hw, hO3.rdH eI_len hw, hO4.rdH eI_len hw⟩ hR) (fun _ _ => GR_nil) (fun u hu => ?_)
        have hul := under_len p d side i 0
        refine GT_st rfl rfl rfl rfl (V_assign rfl rfl) ?_
        refine GT_nil ?_
        refine GE_seq ?_
        refine GE_seq ?_
        refine GE_plain (.st 0 (.st 1 (.st 2 .nil))) rfl ?_
        refine GT_st rfl rfl rfl rfl (V_move rfl rfl) ?_
        refine GT_st rfl rfl rfl rfl (V_len rfl Try.underlying91 rfl) ?_
        refine GT_st rfl rfl rfl rfl (V_move rfl rfl) ?_
        refine GT_nil ?_
        refine GE_block ?_
        refine GE_to (GE_loop (ι := Nat × Items) (fun x => d.length - x.1) (fun x => [(0, .func (.yield lp) #[] #[]), (1, ptr bb 0), (3, I i), (5, .slice (some ⟨u.1, 0, none⟩) d.length d.length), (15, .slice A p.length c), (16, I p.length), (17, I i), (28, .slice (some ⟨u.1, 0, none⟩) d.length d.length), (29, I d.length), (30, I x.1)]) (fun x => x.2 ++ (u.2 ++ (bb, blk [ptr g 0] 86) :: (g, blk (roomC A A3 A4 p.length d.length c c3 c4) 101) :: (I3 ++ (I4 ++ G)))) (fun x => x.1 ≤ d.length ∧ Q (cStamp p d side i x.1) x.2) ?_ (0, J1) ?_) ⟨rfl, rfl, rfl, rfl, rfl, rfl, rfl, rfl, rfl, rfl, trivial⟩ (HS.chunk (HS.chunk (HS.cons rfl (HS.cons rfl (HS.chunk (HS.chunk HS.last))))))
        · rintro ⟨k, J2⟩ ⟨hk, hQ2⟩ ih2; dsimp only at hk hQ2 ih2 ⊢
          refine GE_seq ?_
          refine GE_plain (.st 0 .nil) rfl ?_
          refine GT_st rfl rfl rfl rfl (V_lss rfl rfl rfl) ?_
          refine GT_nil ?_
          refine GE_seq ?_
          first | refine GE_condNot rfl (fun h3 => ?_) (fun h3 => ?_) | refine GE_cond rfl (fun h3 => ?_) (fun h3 => ?_) | refine GE_condNotB rfl (fun h3 => ?_) (fun h3 => ?_) | refine GE_condB rfl (fun h3 => ?_) (fun h3 => ?_)
          · have hkl : k < d.length := (by omega)
            refine GE_skip ?_
            refine GE_seq ?_
            refine GE_block ?_
            refine GE_seq ?_
            refine GE_plain (.st 0 (.st 1 (.st 2 (.st 3 (.st 4 .nil))))) rfl ?_
            refine GT_st rfl rfl rfl rfl (V_move rfl rfl) ?_
            refine GT_st rfl rfl rfl rfl (V_index rfl rfl rfl Try.underlying91 sz_4 (k := k) rfl hkl rfl) ?_
            refine GT_st rfl rfl rfl rfl (V_load rfl rfl ag_4 (CellAt.own0 hu eB_len (by omega) rfl)) ?_
            refine GT_st rfl rfl rfl rfl (V_assign rfl rfl) ?_
            refine GT_st rfl rfl rfl rfl (V_assign rfl rfl) ?_
            refine GT_nil ?_
            refine GE_seq ?_
            refine GE_slots (L' := [(0, _), (1, _), (3, _), (5, _), (6, _), (7, _), (15, _), (16, _), (17, _), (28, _), (29, _), (30, _)]) ⟨rfl, rfl, rfl, rfl, rfl, rfl, rfl, rfl, rfl, rfl, rfl, rfl, trivial⟩ ?_
            refine GE_drawn (.st 0 (.st 1 (.st 2 (.st 3 (.st 4 (.st 5 (.st 6 (.st 7 (.st 8 (.st 9 (.st 10 (.st 11 (.st 12 (.st 13 (.st 14 (.ld 15 [2, 3, 4, 5, 6, 7, 8, 9, 10, 11] (.st 16 (.ld 17 [] (.st 18 (.st 19 .nil)))))))))))))))))))) [15, 17] (by decide +kernel) ?_
            refine GT_st rfl rfl rfl rfl (V_move rfl rfl) ?_
            refine GT_st rfl rfl rfl rfl (V_move rfl rfl) ?_
            first | refine GT_splitNot (d := 36) rfl (fun h4 => ?_) (fun h4 => ?_) | refine GT_split (d := 36) rfl (fun h4 => ?_) (fun h4 => ?_) | refine GT_splitNotB (d := 36) rfl (fun h4 => ?_) (fun h4 => ?_) | refine GT_splitB (d := 36) rfl (fun h4 => ?_) (fun h4 => ?_)
            · skip
              refine GT_st_g rfl rfl rfl rfl rfl rfl rfl (V_move rfl rfl) ?_
              refine GT_st_g rfl rfl rfl rfl rfl rfl rfl (V_move rfl rfl) ?_
              refine GT_st_g rfl rfl rfl rfl rfl rfl rfl (V_load rfl rfl ag_86 (CellAt.item rfl)) ?_
              first | refine GT_st_g rfl rfl rfl rfl rfl rfl rfl (V_nilCheck rfl rfl) ?_ | refine GT_st_g rfl rfl rfl rfl rfl rfl rfl (V_nilCheck_func rfl rfl) ?_ | refine GT_st_g rfl rfl rfl rfl rfl rfl rfl (V_nilCheck_yield rfl rfl) ?_
              first | refine GT_st_g rfl rfl rfl rfl rfl rfl rfl (V_field rfl rfl fo_101_1) ?_ | refine GT_st_g rfl rfl rfl rfl rfl rfl rfl (V_fieldA rfl rfl fo_101_1) ?_
              refine GT_st_g rfl rfl rfl rfl rfl rfl rfl (V_load rfl rfl ag_42 (CellAt.item rfl)) ?_
              refine GT_st_g rfl rfl rfl rfl rfl rfl rfl (V_move rfl rfl) ?_
              refine GT_st_g rfl rfl rfl rfl rfl rfl rfl (V_index rfl rfl rfl Try.underlying42 sz_2 (k := k) rfl hkl (hO3.isSome (k := k) (by omega))) ?_
              refine GT_st_g rfl rfl rfl rfl rfl rfl rfl (V_load rfl rfl ag_2 (CellAt.own0 hO3 eI_len (by omega) (by rw [serS_get hkl]; rfl))) ?_
              refine GT_st_g rfl rfl rfl rfl rfl rfl rfl (V_build (vs := [_, _]) rfl rfl zc_46 pl_46 sa_46 rfl) ?_
              refine GT_st_g rfl rfl rfl rfl rfl rfl rfl (V_load rfl rfl ag_86 (CellAt.item rfl)) ?_
              refine GT_st_g rfl rfl rfl rfl rfl rfl rfl (V_move rfl rfl) ?_
              refine GT_st_g rfl rfl rfl rfl rfl rfl rfl (V_move rfl rfl) ?_
              refine GT_call_g rfl rfl rfl rfl rfl rfl rfl rfl rfl rfl rfl rn_65 (fun w hw => (by have := C_from (c := d.length) (v0 := ptr g 0) (k := k) rfl (hu.rdH eB_len hw) (by omega) (by omega); rw [hul] at this; exact this)) (fun _ _ => GR_cons_g rfl rfl rfl rfl rfl rfl rfl (V_move rfl rfl) (GR_cons_g rfl rfl rfl rfl rfl rfl rfl (V_move rfl rfl) (GR_cons_g rfl rfl rfl rfl rfl rfl rfl (V_load rfl rfl ag_86 (CellAt.item rfl)) (GR_cons_g rfl rfl rfl rfl rfl rfl rfl ((by first | exact V_nilCheck rfl rfl | exact V_nilCheck_func rfl rfl | exact V_nilCheck_yield rfl rfl)) (GR_cons_g rfl rfl rfl rfl rfl rfl rfl ((by first | exact V_field rfl rfl fo_101_1 | exact V_fieldA rfl rfl fo_101_1)) (GR_cons_g rfl rfl rfl rfl rfl rfl rfl (V_load rfl rfl ag_42 (CellAt.item rfl)) (GR_cons_g rfl rfl rfl rfl rfl rfl rfl (V_move rfl rfl) (GR_cons_g rfl rfl rfl rfl rfl rfl rfl (V_index rfl rfl rfl Try.underlying42 sz_2 (k := k) rfl hkl (hO3.isSome (k := k) (by omega))) (GR_cons_g rfl rfl rfl rfl rfl rfl rfl (V_load rfl rfl ag_2 (CellAt.own0 hO3 eI_len (by omega) (by rw [serS_get hkl]; rfl))) (GR_cons_g rfl rfl rfl rfl rfl rfl rfl (V_build (vs := [_, _]) rfl rfl zc_46 pl_46 sa_46 rfl) (GR_nil))))))))))) (fun z hz => ?_)
              rw [fromK_len, hul] at hz ⊢
              refine GT_st_g rfl rfl rfl rfl rfl rfl rfl (V_build (vs := [_, _, _]) rfl rfl zc_93 pl_93 sa_93 rfl) ?_
              refine GT_yield_g rfl rfl rfl rfl rfl rfl rfl rfl rfl rfl (YieldTo.chunkR (hY _ ⟨i, (d.getD k default).ser, fromK (under p d side i 0) k⟩ _ _ _ _ (cStamp_len hdl hpl hil hkl) (stamp1_mem hil hkl h2 h4) hQ2 hz _)) (fun _ _ _ => GR_nil) (fun v H' hR => ?_)
              obtain ⟨q, J3, rfl, rfl, hQ3, hS⟩ := hR
              first | refine GT_st_g rfl rfl rfl rfl rfl rfl rfl (V_not rfl rfl) ?_ | refine GT_st_g rfl rfl rfl rfl rfl rfl rfl (V_notB rfl rfl) ?_
              refine GT_st rfl rfl rfl rfl (V_pick_t rfl rfl rfl) ?_
              refine GT_nil ?_
              first | refine GE_condNot rfl (fun h5 => ?_) (fun h5 => ?_) | refine GE_cond rfl (fun h5 => ?_) (fun h5 => ?_) | refine GE_condNotB rfl (fun h5 => ?_) (fun h5 => ?_) | refine GE_condB rfl (fun h5 => ?_) (fun h5 => ?_)
              · have hS := hS (by simpa using h5)
                refine GE_ret Try.func63 rfl (fun w hw => ?_)
                exact ⟨J3, .inr hS, SH.hs (C := cx Try.prog hm 0 0 w0 none' fun _ _ => True) hw (HS.chunk (HS.cons rfl (HS.cons rfl (HS.chunk (HS.chunk HS.last)))))⟩
              · have hQ3 := hQ3 (by simpa using h5)
                refine GE_skip ?_
                refine GE_inBlock ?_
                refine GE_slots (L' := [(0, _), (1, _), (3, _), (5, _), (15, _), (16, _), (17, _), (28, _), (29, _), (30, _), (37, _), (38, _), (39, _), (40, _), (41, _), (42, _), (43, _), (44, _), (45, _), (46, _), (47, _), (48, _), (49, _), (50, _), (51, _), (52, _), (53, _)]) ⟨rfl, rfl, rfl, rfl, rfl, rfl, rfl, rfl, rfl, rfl, rfl, rfl, rfl, rfl, rfl, rfl, rfl, rfl, rfl, rfl, rfl, rfl, rfl, rfl, rfl, rfl, rfl, trivial⟩ ?_
                refine GE_plain (.st 0 (.ld 1 [] .nil)) rfl ?_
                refine GT_st rfl rfl rfl rfl (V_add rfl rfl rfl (wrap_i64 (by omega))) ?_
                refine GT_ldv rfl rfl rfl rfl rfl (V_move rfl rfl) (GR_nil) ?_
                refine GT_nil ?_
                first
                  | exact GE_to (ih2 (k + 1, J3) ⟨by dsimp only; omega, by rw [cStamp_succ, stamp1_yes h4]; exact hQ3⟩ (by dsimp only; omega)) ⟨rfl, rfl, rfl, rfl, rfl, rfl, rfl, rfl, rfl, rfl, trivial⟩ (HS.chunk (HS.chunk (HS.cons rfl (HS.cons rfl (HS.chunk (HS.chunk HS.last))))))
                  | exact GE_to (ih2 (k + 1, J2) ⟨by dsimp only; omega, by rw [cStamp_succ, stamp1_no h4, List.append_nil]; exact hQ2⟩ (by dsimp only; omega)) ⟨rfl, rfl, rfl, rfl, rfl, rfl, rfl, rfl, rfl, rfl, trivial⟩ (HS.chunk (HS.chunk (HS.cons rfl (HS.cons rfl (HS.chunk (HS.chunk HS.last))))))
            · skip
              refine GT_skip rfl rfl rfl rfl rfl (by decide) rfl rfl ?_
              refine GT_skip rfl rfl rfl rfl rfl (by decide) rfl rfl ?_
              refine GT_skip rfl rfl rfl rfl rfl (by decide) rfl rfl ?_
              refine GT_skip rfl rfl rfl rfl rfl (by decide) rfl rfl ?_
              refine GT_skip rfl rfl rfl rfl rfl (by decide) rfl rfl ?_
              refine GT_skip rfl rfl rfl rfl rfl (by decide) rfl rfl ?_
              refine GT_skip rfl rfl rfl rfl rfl (by decide) rfl rfl ?_
              refine GT_skip rfl rfl rfl rfl rfl (by decide) rfl rfl ?_
              refine GT_skip rfl rfl rfl rfl rfl (by decide) rfl rfl ?_
              refine GT_skip rfl rfl rfl rfl rfl (by decide) rfl rfl ?_
              refine GT_skip rfl rfl rfl rfl rfl (by decide) rfl rfl ?_
              refine GT_skip rfl rfl rfl rfl rfl (by decide) rfl rfl ?_
              refine GT_skip rfl rfl rfl rfl rfl (by decide) rfl rfl ?_
              refine GT_skip_ld rfl rfl rfl rfl rfl (by decide) rfl rfl rfl (GR_skip rfl rfl rfl rfl rfl (by decide) rfl rfl (GR_skip rfl rfl rfl rfl rfl (by decide) rfl rfl (GR_skip rfl rfl rfl rfl rfl (by decide) rfl rfl (GR_skip rfl rfl rfl rfl rfl (by decide) rfl rfl (GR_skip rfl rfl rfl rfl rfl (by decide) rfl rfl (GR_skip rfl rfl rfl rfl rfl (by decide) rfl rfl (GR_skip rfl rfl rfl rfl rfl (by decide) rfl rfl (GR_skip rfl rfl rfl rfl rfl (by decide) rfl rfl (GR_skip rfl rfl rfl rfl rfl (by decide) rfl rfl (GR_skip rfl rfl rfl rfl rfl (by decide) rfl rfl (GR_nil))))))))))) ?_
              refine GT_skip rfl rfl rfl rfl rfl (by decide) rfl rfl ?_
              refine GT_skip_ld rfl rfl rfl rfl rfl (by decide) rfl rfl rfl (GR_nil) ?_
              refine GT_skip rfl rfl rfl rfl rfl (by decide) rfl rfl ?_
              refine GT_st rfl rfl rfl rfl (V_pick_f rfl rfl rfl) ?_
              refine GT_nil ?_
              refine GE_cond_f rfl ?_
              refine GE_skip ?_
              refine GE_inBlock ?_
              refine GE_slots (L' := [(0, _), (1, _), (3, _), (5, _), (15, _), (16, _), (17, _), (28, _), (29, _), (30, _), (37, _), (38, _), (39, _), (40, _), (41, _), (42, _), (43, _), (44, _), (45, _), (46, _), (47, _), (48, _), (49, _), (50, _), (51, _), (52, _), (53, _)]) ⟨rfl, rfl, rfl, rfl, rfl, rfl, rfl, rfl, rfl, rfl, rfl, rfl, rfl, rfl, rfl, rfl, rfl, rfl, rfl, rfl, rfl, rfl, rfl, rfl, rfl, rfl, rfl, trivial⟩ ?_
              refine GE_plain (.st 0 (.ld 1 [] .nil)) rfl ?_
              refine GT_st rfl rfl rfl rfl (V_add rfl rfl rfl (wrap_i64 (by omega))) ?_
              refine GT_ldv rfl rfl rfl rfl rfl (V_move rfl rfl) (GR_nil) ?_
              refine GT_nil ?_
              first
                | exact GE_to (ih2 (k + 1, J3) ⟨by dsimp only; omega, by rw [cStamp_succ, stamp1_yes h4]; exact hQ3⟩ (by dsimp only; omega)) ⟨rfl, rfl, rfl, rfl, rfl, rfl, rfl, rfl, rfl, rfl, trivial⟩ (HS.chunk (HS.chunk (HS.cons rfl (HS.cons rfl (HS.chunk (HS.chunk HS.last))))))
                | exact GE_to (ih2 (k + 1, J2) ⟨by dsimp only; omega, by rw [cStamp_succ, stamp1_no h4, List.append_nil]; exact hQ2⟩ (by dsimp only; omega)) ⟨rfl, rfl, rfl, rfl, rfl, rfl, rfl, rfl, rfl, rfl, trivial⟩ (HS.chunk (HS.chunk (HS.cons rfl (HS.cons rfl (HS.chunk (HS.chunk HS.last))))))
          · obtain rfl : k = d.length := (by omega)
            refine GE_exit rfl ?_
            refine GE_exit rfl ?_
            refine GE_slots (L' := [(0, _), (1, _), (15, _), (16, _), (17, _)]) ⟨rfl, rfl, rfl, rfl, rfl, trivial⟩ ?_
            refine GE_plain (.st 0 (.ld 1 [] .nil)) rfl ?_
            refine GT_st rfl rfl rfl rfl (V_add rfl rfl rfl (wrap_i64 (by omega))) ?_
            refine GT_ldv rfl rfl rfl rfl rfl (V_move rfl rfl) (GR_nil) ?_
            refine GT_nil ?_
            first
              | exact GE_to (ih (i + 1, J2) ⟨by dsimp only; omega, by rw [← cStamp_end h2]; exact hQ2⟩ (by dsimp only; omega)) ⟨rfl, rfl, rfl, rfl, rfl, trivial⟩ (HS.chunk (HS.cons rfl (HS.cons rfl (HS.chunk (HS.chunk HS.last)))))
              | exact GE_to (ih (i + 1, J2) ⟨by dsimp only; omega, by rw [← cChild_end h2]; exact hQ2⟩ (by dsimp only; omega)) ⟨rfl, rfl, rfl, rfl, rfl, trivial⟩ (HS.chunk (HS.cons rfl (HS.cons rfl (HS.chunk (HS.chunk HS.last)))))
        · exact ⟨Nat.zero_le _, hQ1⟩
      · rw [← cChild_one] at hQ1
        refine GE_skip ?_
        refine GE_seq ?_
        refine GE_slots (L' := [(0, _), (1, _), (3, _), (15, _), (16, _), (17, _)]) ⟨rfl, rfl, rfl, rfl, rfl, rfl, trivial⟩ ?_
        refine GE_plain (.st 0 (.st 1 (.st 2 .nil))) rfl ?_
        refine GT_st rfl rfl rfl rfl (V_move rfl rfl) ?_
        refine GT_st rfl rfl rfl rfl (V_add rfl rfl rfl (wrap_i64 (by omega))) ?_
        refine GT_st rfl rfl rfl rfl (V_assign rfl rfl) ?_
        refine GT_nil ?_
        refine GE_block ?_
        refine GE_to (GE_loop (ι := Nat × Items) (fun x => p.length - x.1) (fun x => [(0, .func (.yield lp) #[] #[]), (1, ptr bb 0), (3, I i), (8, I x.1), (15, .slice A p.length c), (16, I p.length), (17, I i)]) (fun x => x.2 ++ (bb, blk [ptr g 0] 86) :: (g, blk (roomC A A3 A4 p.length d.length c c3 c4) 101) :: (I3 ++ (I4 ++ G))) (fun x => i + 1 ≤ x.1 ∧ x.1 ≤ p.length ∧ Q (cChild p d side i x.1) x.2) ?_ (i + 1, J1) ?_) ⟨rfl, rfl, rfl, rfl, rfl, rfl, rfl, trivial⟩ (HS.chunk (HS.cons rfl (HS.cons rfl (HS.chunk (HS.chunk HS.last)))))
        · rintro ⟨k, J2⟩ ⟨hik, hk, hQ2⟩ ih2; dsimp only at hik hk hQ2 ih2 ⊢
          refine GE_seq ?_
          refine GE_seq ?_
          refine GE_plain (.st 0 (.st 1 (.st 2 (.st 3 (.st 4 (.st 5 (.st 6 .nil))))))) rfl ?_
          refine GT_st rfl rfl rfl rfl (V_move rfl rfl) ?_
          refine GT_st rfl rfl rfl rfl (V_load rfl rfl ag_86 (CellAt.item rfl)) ?_
          first | refine GT_st rfl rfl rfl rfl (V_nilCheck rfl rfl) ?_ | refine GT_st rfl rfl rfl rfl (V_nilCheck_func rfl rfl) ?_ | refine GT_st rfl rfl rfl rfl (V_nilCheck_yield rfl rfl) ?_
          first | refine GT_st rfl rfl rfl rfl (V_field rfl rfl fo_101_0) ?_ | refine GT_st rfl rfl rfl rfl (V_fieldA rfl rfl fo_101_0) ?_
          refine GT_st rfl rfl rfl rfl (V_load rfl rfl ag_36 (CellAt.item rfl)) ?_
          refine GT_st rfl rfl rfl rfl (V_len rfl Try.underlying36 rfl) ?_
          refine GT_st rfl rfl rfl rfl (V_lss rfl rfl rfl) ?_
          refine GT_nil ?_
          first | refine GE_condNot rfl (fun h3 => ?_) (fun h3 => ?_) | refine GE_cond rfl (fun h3 => ?_) (fun h3 => ?_) | refine GE_condNotB rfl (fun h3 => ?_) (fun h3 => ?_) | refine GE_condB rfl (fun h3 => ?_) (fun h3 => ?_)
          · have hkl : k < p.length := (by omega)
            refine GE_skip ?_
            refine GE_seq ?_
            refine GE_block ?_
            refine GE_seq ?_
            refine GE_slots (L' := [(0, _), (1, _), (3, _), (8, _), (15, _), (16, _), (17, _)]) ⟨rfl, rfl, rfl, rfl, rfl, rfl, rfl, trivial⟩ ?_
            refine GE_plain (.st 0 (.st 1 (.st 2 (.st 3 (.st 4 (.st 5 (.st 6 (.st 7 (.st 8 (.st 9 (.st 10 (.st 11 (.st 12 (.st 13 (.st 14 (.st 15 (.st 16 (.st 17 (.ld 18 [] (.st 19 (.ld 20 [] (.st 21 (.st 22 .nil))))))))))))))))))))))) rfl ?_
            refine GT_st rfl rfl rfl rfl (V_load rfl rfl ag_86 (CellAt.item rfl)) ?_
            first | refine GT_st rfl rfl rfl rfl (V_nilCheck rfl rfl) ?_ | refine GT_st rfl rfl rfl rfl (V_nilCheck_func rfl rfl) ?_ | refine GT_st rfl rfl rfl rfl (V_nilCheck_yield rfl rfl) ?_
            first | refine GT_st rfl rfl rfl rfl (V_field rfl rfl fo_101_0) ?_ | refine GT_st rfl rfl rfl rfl (V_fieldA rfl rfl fo_101_0) ?_
            refine GT_st rfl rfl rfl rfl (V_load rfl rfl ag_36 (CellAt.item rfl)) ?_
            refine GT_st rfl rfl rfl rfl (V_move rfl rfl) ?_
            refine GT_st rfl rfl rfl rfl (V_index rfl rfl rfl Try.underlying36 sz_53 (k := k) rfl hkl (hp.isSome (k := k) (by omega))) ?_
            first | refine GT_st rfl rfl rfl rfl (V_field rfl rfl fo_53_1) ?_ | refine GT_st rfl rfl rfl rfl (V_fieldA rfl rfl fo_53_1) ?_
            refine GT_st rfl rfl rfl rfl (V_load rfl rfl ag_3 (hp.at1 noM hkl rfl)) ?_
            refine GT_st rfl rfl rfl rfl (V_move rfl rfl) ?_
            refine GT_st rfl rfl rfl rfl (V_eql rfl rfl rfl) ?_
            refine GT_st rfl rfl rfl rfl (V_move rfl rfl) ?_
            first | refine GT_splitNot (d := 77) rfl (fun h4 => ?_) (fun h4 => ?_) | refine GT_split (d := 77) rfl (fun h4 => ?_) (fun h4 => ?_) | refine GT_splitNotB (d := 77) rfl (fun h4 => ?_) (fun h4 => ?_) | refine GT_splitB (d := 77) rfl (fun h4 => ?_) (fun h4 => ?_)
            · skip
              refine GT_st_g rfl rfl rfl rfl rfl rfl rfl (V_move rfl rfl) ?_
              refine GT_st_g rfl rfl rfl rfl rfl rfl rfl (V_move rfl rfl) ?_
              refine GT_st_g rfl rfl rfl rfl rfl rfl rfl (V_move rfl rfl) ?_
              refine GT_st_g rfl rfl rfl rfl rfl rfl rfl (V_build (vs := [_, _]) rfl rfl zc_46 pl_46 sa_46 rfl) ?_
              refine GT_st_g rfl rfl rfl rfl rfl rfl rfl (V_load rfl rfl ag_86 (CellAt.item rfl)) ?_
              refine GT_st_g rfl rfl rfl rfl rfl rfl rfl (V_move rfl rfl) ?_
              refine GT_st_g rfl rfl rfl rfl rfl rfl rfl (V_move rfl rfl) ?_
              refine GT_call_g rfl rfl rfl rfl rfl rfl rfl rfl rfl rfl rfl rn_64 (fun w hw => C_under (plate := i) (frm := k) ⟨BlkAt.of hw, hp.sh hw, hO3.rdH eI_len hw, hO4.rdH eI_len hw⟩ hR) (fun _ _ => GR_nil) (fun z hz => ?_)
              refine GT_st_g rfl rfl rfl rfl rfl rfl rfl (V_build (vs := [_, _, _]) rfl rfl zc_93 pl_93 sa_93 rfl) ?_
              refine GT_yield_g rfl rfl rfl rfl rfl rfl rfl rfl rfl rfl (YieldTo.chunkR (hY _ ⟨i, k, under p d side i k⟩ _ _ d.length _ (cChild_len hdl hpl hil hkl) (child1_mem hil hkl h2 (by omega) h4) hQ2 hz _)) (fun _ _ _ => GR_nil) (fun v H' hR => ?_)
              obtain ⟨q, J3, rfl, rfl, hQ3, hS⟩ := hR
              first | refine GT_st_g rfl rfl rfl rfl rfl rfl rfl (V_not rfl rfl) ?_ | refine GT_st_g rfl rfl rfl rfl rfl rfl rfl (V_notB rfl rfl) ?_
              refine GT_st rfl rfl rfl rfl (V_pick_t rfl rfl rfl) ?_
              refine GT_nil ?_
              first | refine GE_condNot rfl (fun h5 => ?_) (fun h5 => ?_) | refine GE_cond rfl (fun h5 => ?_) (fun h5 => ?_) | refine GE_condNotB rfl (fun h5 => ?_) (fun h5 => ?_) | refine GE_condB rfl (fun h5 => ?_) (fun h5 => ?_)
              · have hS := hS (by simpa using h5)
                refine GE_ret Try.func63 rfl (fun w hw => ?_)
                exact ⟨J3, .inr hS, SH.hs (C := cx Try.prog hm 0 0 w0 none' fun _ _ => True) hw (HS.chunk (HS.cons rfl (HS.cons rfl (HS.chunk (HS.chunk HS.last)))))⟩
              · have hQ3 := hQ3 (by simpa using h5)
                refine GE_skip ?_
                refine GE_inBlock ?_
                refine GE_slots (L' := [(0, _), (1, _), (3, _), (8, _), (15, _), (16, _), (17, _), (78, _), (79, _), (80, _), (81, _), (82, _), (83, _), (84, _), (85, _), (86, _), (87, _), (88, _)]) ⟨rfl, rfl, rfl, rfl, rfl, rfl, rfl, rfl, rfl, rfl, rfl, rfl, rfl, rfl, rfl, rfl, rfl, rfl, trivial⟩ ?_
                refine GE_plain (.st 0 (.st 1 (.ld 2 [] .nil))) rfl ?_
                refine GT_st rfl rfl rfl rfl (V_move rfl rfl) ?_
                refine GT_st rfl rfl rfl rfl (V_add rfl rfl rfl (wrap_i64 (by omega))) ?_
                refine GT_ldv rfl rfl rfl rfl rfl (V_assign rfl rfl) (GR_nil) ?_
                refine GT_nil ?_
                first
                  | exact GE_to (ih2 (k + 1, J3) ⟨by dsimp only; omega, by dsimp only; omega, by rw [cChild_succ]; unfold child1; rw [if_pos ⟨by omega, h4⟩]; exact hQ3⟩ (by dsimp only; omega)) ⟨rfl, rfl, rfl, rfl, rfl, rfl, rfl, trivial⟩ (HS.chunk (HS.cons rfl (HS.cons rfl (HS.chunk (HS.chunk HS.last)))))
                  | exact GE_to (ih2 (k + 1, J2) ⟨by dsimp only; omega, by dsimp only; omega, by rw [cChild_succ]; unfold child1; rw [if_neg (fun q => h4 q.2), List.append_nil]; exact hQ2⟩ (by dsimp only; omega)) ⟨rfl, rfl, rfl, rfl, rfl, rfl, rfl, trivial⟩ (HS.chunk (HS.cons rfl (HS.cons rfl (HS.chunk (HS.chunk HS.last)))))
            · skip
              refine GT_skip rfl rfl rfl rfl rfl (by decide) rfl rfl ?_
              refine GT_skip rfl rfl rfl rfl rfl (by decide) rfl rfl ?_
              refine GT_skip rfl rfl rfl rfl rfl (by decide) rfl rfl ?_
              refine GT_skip rfl rfl rfl rfl rfl (by decide) rfl rfl ?_
              refine GT_skip rfl rfl rfl rfl rfl (by decide) rfl rfl ?_
              refine GT_skip rfl rfl rfl rfl rfl (by decide) rfl rfl ?_
              refine GT_skip rfl rfl rfl rfl rfl (by decide) rfl rfl ?_
              refine GT_skip_ld rfl rfl rfl rfl rfl (by decide) rfl rfl rfl (GR_nil) ?_
              refine GT_skip rfl rfl rfl rfl rfl (by decide) rfl rfl ?_
              refine GT_skip_ld rfl rfl rfl rfl rfl (by decide) rfl rfl rfl (GR_nil) ?_
              refine GT_skip rfl rfl rfl rfl rfl (by decide) rfl rfl ?_
              refine GT_st rfl rfl rfl rfl (V_pick_f rfl rfl rfl) ?_
              refine GT_nil ?_
              refine GE_cond_f rfl ?_
              refine GE_skip ?_
              refine GE_inBlock ?_
              refine GE_slots (L' := [(0, _), (1, _), (3, _), (8, _), (15, _), (16, _), (17, _), (78, _), (79, _), (80, _), (81, _), (82, _), (83, _), (84, _), (85, _), (86, _), (87, _), (88, _)]) ⟨rfl, rfl, rfl, rfl, rfl, rfl, rfl, rfl, rfl, rfl, rfl, rfl, rfl, rfl, rfl, rfl, rfl, rfl, trivial⟩ ?_
              refine GE_plain (.st 0 (.st 1 (.ld 2 [] .nil))) rfl ?_
              refine GT_st rfl rfl rfl rfl (V_move rfl rfl) ?_
              refine GT_st rfl rfl rfl rfl (V_add rfl rfl rfl (wrap_i64 (by omega))) ?_
              refine GT_ldv rfl rfl rfl rfl rfl (V_assign rfl rfl) (GR_nil) ?_
              refine GT_nil ?_
              first
                | exact GE_to (ih2 (k + 1, J3) ⟨by dsimp only; omega, by dsimp only; omega, by rw [cChild_succ]; unfold child1; rw [if_pos ⟨by omega, h4⟩]; exact hQ3⟩ (by dsimp only; omega)) ⟨rfl, rfl, rfl, rfl, rfl, rfl, rfl, trivial⟩ (HS.chunk (HS.cons rfl (HS.cons rfl (HS.chunk (HS.chunk HS.last)))))
                | exact GE_to (ih2 (k + 1, J2) ⟨by dsimp only; omega, by dsimp only; omega, by rw [cChild_succ]; unfold child1; rw [if_neg (fun q => h4 q.2), List.append_nil]; exact hQ2⟩ (by dsimp only; omega)) ⟨rfl, rfl, rfl, rfl, rfl, rfl, rfl, trivial⟩ (HS.chunk (HS.cons rfl (HS.cons rfl (HS.chunk (HS.chunk HS.last)))))
          · obtain rfl : k = p.length := (by omega)
            refine GE_exit rfl ?_
            refine GE_inBlock ?_
            refine GE_slots (L' := [(0, _), (1, _), (15, _), (16, _), (17, _)]) ⟨rfl, rfl, rfl, rfl, rfl, trivial⟩ ?_
            refine GE_plain (.st 0 (.ld 1 [] .nil)) rfl ?_
            refine GT_st rfl rfl rfl rfl (V_add rfl rfl rfl (wrap_i64 (by omega))) ?_
            refine GT_ldv rfl rfl rfl rfl rfl (V_move rfl rfl) (GR_nil) ?_
            refine GT_nil ?_
            first
              | exact GE_to (ih (i + 1, J2) ⟨by dsimp only; omega, by rw [← cStamp_end h2]; exact hQ2⟩ (by dsimp only; omega)) ⟨rfl, rfl, rfl, rfl, rfl, trivial⟩ (HS.chunk (HS.cons rfl (HS.cons rfl (HS.chunk (HS.chunk HS.last)))))
              | exact GE_to (ih (i + 1, J2) ⟨by dsimp only; omega, by rw [← cChild_end h2]; exact hQ2⟩ (by dsimp only; omega)) ⟨rfl, rfl, rfl, rfl, rfl, trivial⟩ (HS.chunk (HS.cons rfl (HS.cons rfl (HS.chunk (HS.chunk HS.last)))))
        · exact ⟨Nat.le_refl _, by dsimp only; omega, hQ1⟩
    · obtain rfl : i = p.length := (by omega)
      refine GE_exit rfl ?_
      refine GE_seq ?_
      refine GE_slots (L' := [(0, _), (1, _)]) ⟨rfl, rfl, trivial⟩ ?_
      refine GE_plain (.st 0 (.st 1 (.st 2 (.st 3 (.st 4 (.st 5 .nil)))))) rfl ?_
      refine GT_st rfl rfl rfl rfl (V_load rfl rfl ag_86 (CellAt.item rfl)) ?_
      first | refine GT_st rfl rfl rfl rfl (V_nilCheck rfl rfl) ?_ | refine GT_st rfl rfl rfl rfl (V_nilCheck_func rfl rfl) ?_ | refine GT_st rfl rfl rfl rfl (V_nilCheck_yield rfl rfl) ?_
      first | refine GT_st rfl rfl rfl rfl (V_field rfl rfl fo_101_1) ?_ | refine GT_st rfl rfl rfl rfl (V_fieldA rfl rfl fo_101_1) ?_
      refine GT_st rfl rfl rfl rfl (V_load rfl rfl ag_42 (CellAt.item rfl)) ?_
      refine GT_st rfl rfl rfl rfl (V_len rfl Try.underlying42 rfl) ?_
      refine GT_st rfl rfl rfl rfl (V_move rfl rfl) ?_
      refine GT_nil ?_
      refine GE_block ?_
      refine GE_to (GE_loop (ι := Nat × Items) (fun x => d.length - x.1) (fun x => [(0, .func (.yield lp) #[] #[]), (1, ptr bb 0), (94, .slice A3 d.length c3), (95, I d.length), (96, I x.1)]) (fun x => x.2 ++ (bb, blk [ptr g 0] 86) :: (g, blk (roomC A A3 A4 p.length d.length c c3 c4) 101) :: (I3 ++ (I4 ++ G))) (fun x => x.1 ≤ d.length ∧ Q (cAlone p d side x.1) x.2) ?_ (0, J1) ?_) ⟨rfl, rfl, rfl, rfl, rfl, trivial⟩ (HS.chunk (HS.cons rfl (HS.cons rfl (HS.chunk (HS.chunk HS.last)))))
      · rintro ⟨k, J2⟩ ⟨hk, hQ2⟩ ih2; dsimp only at hk hQ2 ih2 ⊢
        refine GE_seq ?_
        refine GE_plain (.st 0 .nil) rfl ?_
        refine GT_st rfl rfl rfl rfl (V_lss rfl rfl rfl) ?_
        refine GT_nil ?_
        refine GE_seq ?_
        first | refine GE_condNot rfl (fun h3 => ?_) (fun h3 => ?_) | refine GE_cond rfl (fun h3 => ?_) (fun h3 => ?_) | refine GE_condNotB rfl (fun h3 => ?_) (fun h3 => ?_) | refine GE_condB rfl (fun h3 => ?_) (fun h3 => ?_)
        · have hkl : k < d.length := (by omega)
          refine GE_skip ?_
          refine GE_seq ?_
          refine GE_block ?_
          refine GE_seq ?_
          refine GE_plain (.st 0 (.st 1 (.st 2 (.st 3 (.st 4 .nil))))) rfl ?_
          refine GT_st rfl rfl rfl rfl (V_move rfl rfl) ?_
          refine GT_st rfl rfl rfl rfl (V_index rfl rfl rfl Try.underlying42 sz_2 (k := k) rfl hkl (hO3.isSome (k := k) (by omega))) ?_
          refine GT_st rfl rfl rfl rfl (V_load rfl rfl ag_2 (CellAt.own0 hO3 eI_len (by omega) (by rw [serS_get hkl]; rfl))) ?_
          refine GT_st rfl rfl rfl rfl (V_assign rfl rfl) ?_
          refine GT_st rfl rfl rfl rfl (V_assign rfl rfl) ?_
          refine GT_nil ?_
          refine GE_seq ?_
          refine GE_slots (L' := [(0, _), (1, _), (9, _), (10, _), (94, _), (95, _), (96, _)]) ⟨rfl, rfl, rfl, rfl, rfl, rfl, rfl, trivial⟩ ?_
          refine GE_plain (.st 0 (.st 1 (.st 2 (.st 3 (.st 4 (.ld 5 [] (.st 6 .nil))))))) rfl ?_
          refine GT_st rfl rfl rfl rfl (V_load rfl rfl ag_86 (CellAt.item rfl)) ?_
          first | refine GT_st rfl rfl rfl rfl (V_nilCheck rfl rfl) ?_ | refine GT_st rfl rfl rfl rfl (V_nilCheck_func rfl rfl) ?_ | refine GT_st rfl rfl rfl rfl (V_nilCheck_yield rfl rfl) ?_
          first | refine GT_st rfl rfl rfl rfl (V_field rfl rfl fo_101_1) ?_ | refine GT_st rfl rfl rfl rfl (V_fieldA rfl rfl fo_101_1) ?_
          refine GT_st rfl rfl rfl rfl (V_load rfl rfl ag_42 (CellAt.item rfl)) ?_
          refine GT_st rfl rfl rfl rfl (V_len rfl Try.underlying42 rfl) ?_
          refine GT_makeSlice rfl rfl rfl rfl rfl rfl rfl Try.underlying91 zc_4 sz_4 by_4 ⟨rfl, rfl, rfl⟩ ⟨by omega, by omega⟩ (fun _ => GR_nil) (fun b106 => ?_)
          refine GT_st rfl rfl rfl rfl (V_assign rfl rfl) ?_
          refine GT_nil ?_
          refine GE_seq ?_
          refine GE_slots (L' := [(0, _), (1, _), (9, _), (10, _), (11, _), (94, _), (95, _), (96, _)]) ⟨rfl, rfl, rfl, rfl, rfl, rfl, rfl, rfl, trivial⟩ ?_
          refine GE_plain (.st 0 (.st 1 (.st 2 (.ld 3 [] .nil)))) rfl ?_
          refine GT_st rfl rfl rfl rfl (V_move rfl rfl) ?_
          refine GT_st rfl rfl rfl rfl (V_move rfl rfl) ?_
          refine GT_st rfl rfl rfl rfl (V_index rfl rfl rfl Try.underlying91 sz_4 (k := k) rfl hkl rfl) ?_
          refine GT_storeOwn (enc := eB) (q := k) (xx := true) rfl rfl rfl rfl rfl rfl rfl sz_4 (show Own 1 4 eB (List.replicate d.length false) (.slice (some ⟨b106, 0, none⟩) d.length d.length) [(b106, blk ((List.replicate d.length [.bool false]).flatten) 4)] from Own.made (x := false) rfl (Nat.le_trans hdl (by decide))) eB_len eB_one (by simp; omega) (by decide) (fun _ _ => GR_nil) (fun I2 hO2 => ?_)
          refine GT_nil ?_
          refine GE_seq ?_
          refine GE_slots (L' := [(0, _), (1, _), (10, _), (11, _), (94, _), (95, _), (96, _)]) ⟨rfl, rfl, rfl, rfl, rfl, rfl, rfl, trivial⟩ ?_
          refine GE_plain (.st 0 (.st 1 (.st 2 (.st 3 (.st 4 (.ld 5 [] (.st 6 .nil))))))) rfl ?_
          refine GT_st rfl rfl rfl rfl (V_move rfl rfl) ?_
          refine GT_st rfl rfl rfl rfl (V_move rfl rfl) ?_
          refine GT_st rfl rfl rfl rfl (V_build (vs := [_, _]) rfl rfl zc_46 pl_46 sa_46 rfl) ?_
          refine GT_st rfl rfl rfl rfl (V_move rfl rfl) ?_
          refine GT_st rfl rfl rfl rfl (V_build (vs := [_, _, _]) rfl rfl zc_93 pl_93 sa_93 rfl) ?_
          refine GT_yield rfl rfl rfl rfl rfl rfl rfl (YieldTo.chunkR (hY _ (alone1 d k) _ _ d.length _ (cAlone_len hdl hpl hkl) (alone1_mem hkl) hQ2 hO2 _)) (fun _ _ _ => GR_nil) (fun v H' hR => ?_)
          obtain ⟨q, J3, rfl, rfl, hQ3, hS⟩ := hR
          first | refine GT_st rfl rfl rfl rfl (V_not rfl rfl) ?_ | refine GT_st rfl rfl rfl rfl (V_notB rfl rfl) ?_
          refine GT_nil ?_
          first | refine GE_condNot rfl (fun h5 => ?_) (fun h5 => ?_) | refine GE_cond rfl (fun h5 => ?_) (fun h5 => ?_) | refine GE_condNotB rfl (fun h5 => ?_) (fun h5 => ?_) | refine GE_condB rfl (fun h5 => ?_) (fun h5 => ?_)
          · have hS := hS (by simpa using h5)
            refine GE_ret Try.func63 rfl (fun w hw => ?_)
            exact ⟨J3, .inr hS, SH.hs (C := cx Try.prog hm 0 0 w0 none' fun _ _ => True) hw (HS.chunk (HS.cons rfl (HS.cons rfl (HS.chunk (HS.chunk HS.last)))))⟩
          · have hQ3 := hQ3 (by simpa using h5)
            refine GE_skip ?_
            refine GE_inBlock ?_
            refine GE_slots (L' := [(0, _), (1, _), (94, _), (95, _), (96, _)]) ⟨rfl, rfl, rfl, rfl, rfl, trivial⟩ ?_
            refine GE_plain (.st 0 (.ld 1 [] .nil)) rfl ?_
            refine GT_st rfl rfl rfl rfl (V_add rfl rfl rfl (wrap_i64 (by omega))) ?_
            refine GT_ldv rfl rfl rfl rfl rfl (V_move rfl rfl) (GR_nil) ?_
            refine GT_nil ?_
            exact GE_to (ih2 (k + 1, J3) ⟨by dsimp only; omega, by rw [cAlone_succ]; exact hQ3⟩ (by dsimp only; omega)) ⟨rfl, rfl, rfl, rfl, rfl, trivial⟩ (HS.chunk (HS.cons rfl (HS.cons rfl (HS.chunk (HS.chunk HS.last)))))
        · obtain rfl : k = d.length := (by omega)
          refine GE_exit rfl ?_
          refine GE_end Try.func63 rfl (fun w hw => ?_)
          exact ⟨J2, .inl hQ2, hw⟩
      · exact ⟨Nat.zero_le _, by rw [cAlone_zero]; exact hQ1⟩
  · exact ⟨Nat.zero_le _, hQ⟩
end
end Go.Proofs.Ytfaggcmcfhljpaa
