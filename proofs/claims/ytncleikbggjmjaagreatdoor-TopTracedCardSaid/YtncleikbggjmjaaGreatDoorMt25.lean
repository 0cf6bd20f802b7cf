/- Texts of this proof, one behind the other: Li7, Li8, Li9, Lia. -/
import Derived.Test.YtncleikbggjmjaaGreatDoorMt0
import Derived.Test.YtncleikbggjmjaaGreatDoorMt24
/- The function that yields all causes, walked. -/
namespace Go.Proofs.YtncleikbggjmjaaGreatDoor.Lis
open Go.Sx Go.Proofs
section
variable (p : List Plt) (d : List Dsc) (side : Int)
def cTo (n : Nat) : List Sus := (List.range n).flatMap (plate1 p d side)
def cStamp (i k : Nat) : List Sus := cTo p d side i ++ (List.range k).flatMap (stamp1 p d side i)
def cChild (i k : Nat) : List Sus := cTo p d side i ++ (List.range k).flatMap (child1 p d side i)
def cAlone (k : Nat) : List Sus := cTo p d side p.length ++ (List.range k).map (alone1 d)
end
section
variable {p : List Plt} {d : List Dsc} {side : Int}
theorem cTo_succ (n : Nat) : cTo p d side (n + 1) = cTo p d side n ++ plate1 p d side n := by simp [cTo, List.range_succ]
theorem cStamp_zero (i : Nat) : cStamp p d side i 0 = cTo p d side i := by simp [cStamp]
theorem cStamp_succ (i k : Nat) : cStamp p d side i (k + 1) = cStamp p d side i k ++ stamp1 p d side i k := by simp [cStamp, List.range_succ]
theorem cStamp_end {i : Nat} (h : (p.getD i default).kind = 3) : cStamp p d side i d.length = cTo p d side (i + 1) := by rw [cTo_succ]; unfold plate1 cStamp; rw [if_pos h]
theorem cChild_one (i : Nat) : cChild p d side i (i + 1) = cTo p d side i := by
  unfold cChild
  have : (List.range (i + 1)).flatMap (child1 p d side i) = [] := by
    rw [List.flatMap_eq_nil_iff]
    intro k hk
    rw [List.mem_range] at hk
    unfold child1; rw [if_neg (by omega)]
  rw [this, List.append_nil]
theorem cChild_succ (i k : Nat) : cChild p d side i (k + 1) = cChild p d side i k ++ child1 p d side i k := by simp [cChild, List.range_succ]
theorem cChild_end {i : Nat} (h : (p.getD i default).kind ≠ 3) : cChild p d side i p.length = cTo p d side (i + 1) := by rw [cTo_succ]; unfold plate1 cChild; rw [if_neg h]
theorem cAlone_zero : cAlone p d side 0 = cTo p d side p.length := by simp [cAlone]
theorem cAlone_succ (k : Nat) : cAlone p d side (k + 1) = cAlone p d side k ++ [alone1 d k] := by simp [cAlone, List.range_succ]
theorem cAlone_end : cAlone p d side d.length = causS p d side := rfl
theorem stamp1_yes {i k : Nat} (h : (under p d side i 0).getD k default = true) : stamp1 p d side i k = [⟨i, (d.getD k default).ser, fromK (under p d side i 0) k⟩] := if_pos h
theorem stamp1_no {i k : Nat} (h : (under p d side i 0).getD k default = false) : stamp1 p d side i k = [] := if_neg (by rw [h]; decide)
theorem stamp1_mem {i k : Nat} (hi : i < p.length) (hk : k < d.length) (h3 : (p.getD i default).kind = 3) (h : (under p d side i 0).getD k default = true) : (⟨i, (d.getD k default).ser, fromK (under p d side i 0) k⟩ : Sus) ∈ causS p d side :=
  causS_mem.2 (.inl ⟨i, hi, plate1_mem.2 (.inl ⟨h3, k, hk, h, rfl⟩)⟩)
theorem child1_mem {i k : Nat} (hi : i < p.length) (hk : k < p.length) (h3 : (p.getD i default).kind ≠ 3) (hik : i < k) (h : (p.getD k default).par = i) : (⟨i, k, under p d side i k⟩ : Sus) ∈ causS p d side :=
  causS_mem.2 (.inl ⟨i, hi, plate1_mem.2 (.inr ⟨h3, k, hk, hik, h, rfl⟩)⟩)
theorem alone1_mem {k : Nat} (hk : k < d.length) : alone1 d k ∈ causS p d side := causS_mem.2 (.inr ⟨k, hk, rfl⟩)
theorem flatMap_le {α β : Type} {f : α → List β} {c : Nat} (h : ∀ i, (f i).length ≤ c) : ∀ l : List α, (l.flatMap f).length ≤ c * l.length
  | [] => by simp
  | i :: l => by
    have := flatMap_le h l
    have := h i
    rw [List.flatMap_cons, List.length_append, List.length_cons, Nat.mul_succ]; omega
theorem stamp1_le (i k : Nat) : (stamp1 p d side i k).length ≤ 1 := by unfold stamp1; split <;> simp
theorem child1_le (i k : Nat) : (child1 p d side i k).length ≤ 1 := by unfold child1; split <;> simp
theorem plate1_le (hd : d.length ≤ 200) (hp : p.length ≤ 256) (i : Nat) : (plate1 p d side i).length ≤ 256 := by
  unfold plate1
  split
  · have := flatMap_le (stamp1_le (p := p) (d := d) (side := side) i) (List.range d.length)
    rw [List.length_range] at this; omega
  · have := flatMap_le (child1_le (p := p) (d := d) (side := side) i) (List.range p.length)
    rw [List.length_range] at this; omega
theorem cTo_len (hd : d.length ≤ 200) (hp : p.length ≤ 256) (n : Nat) : (cTo p d side n).length ≤ 256 * n := by
  have := flatMap_le (plate1_le (side := side) hd hp) (List.range n)
  rw [List.length_range] at this; exact this
theorem cStamp_len (hd : d.length ≤ 200) (hp : p.length ≤ 256) {i k : Nat} (hi : i < p.length) (hk : k < d.length) : (cStamp p d side i k).length ≤ 70000 := by
  have h1 := cTo_len (side := side) hd hp i
  have h2 := flatMap_le (stamp1_le (p := p) (d := d) (side := side) i) (List.range k)
  rw [List.length_range] at h2
  unfold cStamp; rw [List.length_append]; omega
theorem cChild_len (hd : d.length ≤ 200) (hp : p.length ≤ 256) {i k : Nat} (hi : i < p.length) (hk : k < p.length) : (cChild p d side i k).length ≤ 70000 := by
  have h1 := cTo_len (side := side) hd hp i
  have h2 := flatMap_le (child1_le (p := p) (d := d) (side := side) i) (List.range k)
  rw [List.length_range] at h2
  unfold cChild; rw [List.length_append]; omega
theorem cAlone_len (hd : d.length ≤ 200) (hp : p.length ≤ 256) {k : Nat} (hk : k < d.length) : (cAlone p d side k).length ≤ 70000 := by
  have h1 := cTo_len (side := side) hd hp p.length
  unfold cAlone; rw [List.length_append, List.length_map, List.length_range]; omega
theorem causS_le (hd : d.length ≤ 200) (hp : p.length ≤ 256) : (causS p d side).length ≤ 70000 := by
  have h1 := cTo_len (side := side) hd hp p.length
  rw [← cAlone_end]
  unfold cAlone; rw [List.length_append, List.length_map, List.length_range]; omega
set_option maxRecDepth 10000 in
set_option maxHeartbeats 2000000 in
theorem C_all1 {A A3 A4 : Option Addr} {c c3 c4 g bb lp : Nat} {w w0 : World} {J : Items} {Q : List Sus → Items → Prop} {S : Items → Prop} {I3 I4 : Items} (hp : RdL w0 7 ePlt A p) (hO3 : Own 1 2 eI (serS d) (.slice A3 d.length c3) I3) (hO4 : Own 1 3 eI (stmS d side) (.slice A4 d.length c4) I4) (hR : Room p d side)
    (hY : ∀ pre x J Ax cx Ix, pre.length ≤ 70000 → x ∈ causS p d side → Q pre J → Own 1 4 eB x.has (.slice Ax d.length cx) Ix → ∀ G, YieldTo Tryz.prog w0 none' lp [.agg #[I x.plate, I x.frm, .slice Ax d.length cx]] (Ix ++ (J ++ ((g, blk (roomC A A3 A4 p.length d.length c c3 c4) 127) :: (I3 ++ G)))) fun v H' => ∃ q J', v = .bool q ∧ H' = J' ++ ((g, blk (roomC A A3 A4 p.length d.length c c3 c4) 127) :: (I3 ++ G)) ∧ (q = true → Q (pre ++ [x]) J') ∧ (q = false → S J'))
    (hQ : Q [] J) {G : Items} (m : SH w0 none' (J ++ (bb, blk [ptr g 0] 86) :: (g, blk (roomC A A3 A4 p.length d.length c c3 c4) 127) :: (I3 ++ (I4 ++ G))) w) :
    Ret Tryz.prog 75 [.func (.yield lp) #[] #[], ptr bb 0].toArray w fun v w' => ∃ J', (Q (causS p d side) J' ∨ S J') ∧ SH w0 none' (J' ++ (bb, blk [ptr g 0] 86) :: (g, blk (roomC A A3 A4 p.length d.length c c3 c4) 127) :: (I3 ++ (I4 ++ G))) w' := by
  have hls := serS_len d
  have hdl := hR.dl
  have hpl := hR.pl
  refine Ret_ofH (vs := [_, _]) hm none' Tryz.func75 rfl Tryz.ntmps75 rfl m ?_
  dsimp only [slotsOf]
  refine GE_seq ?_;refine Zp 6 [] rfl ?_;refine Zl rfl ag_86 rfl ?_;refine Zv rfl ?_;refine Zg rfl fo_127_0 rfl ag_34 rfl ?_;refine Zn rfl Tryz.underlying34 ?_;refine Zv rfl ?_;refine GT_nil ?_;refine GE_block ?_;refine GE_to (GE_loop (ι := Nat × Items) (fun x => p.length - x.1) (fun x => [(0, .func (.yield lp) #[] #[]), (1, ptr bb 0), (15, .slice A p.length c), (16, I p.length), (17, I x.1)]) (fun x => x.2 ++ (bb, blk [ptr g 0] 86) :: (g, blk (roomC A A3 A4 p.length d.length c c3 c4) 127) :: (I3 ++ (I4 ++ G))) (fun x => x.1 ≤ p.length ∧ Q (cTo p d side x.1) x.2) ?_ (0, J) ?_) ⟨rfl, rfl, rfl, rfl, rfl, trivial⟩ (HS.chunk (HS.cons rfl (HS.cons rfl (HS.chunk (HS.chunk HS.last)))))
  · rintro ⟨i, J1⟩ ⟨hi, hQ1⟩ ih; dsimp only at hi hQ1 ih ⊢
    refine Zp 1 [] rfl ?_;refine GT_S rfl (V_lss rfl rfl rfl) ?_;refine Zz ?_;refine GE_cond rfl (fun h1 => ?_) (fun h1 => ?_)
    · have hil : i < p.length := (by omega)
      refine GE_skip ?_;refine GE_seq ?_;refine GE_block ?_;refine Zp 6 [3, 5] rfl ?_;refine Zv rfl ?_;refine GT_S rfl (V_index rfl rfl rfl Tryz.underlying34 sz_78 (k := i) rfl hil (hp.isSome (k := i) (by omega))) ?_;refine GT_S rfl (V_loadN (vs := [_, _, _, _, _, _, _]) rfl rfl ag_78 sz_78 rfl (hp.ats noM hil)) ?_;refine Zb rfl zc_78 fun b4 => ?_;refine Zv rfl ?_;refine ZS [_, _, _, _, _, _, _] [_, _, _, _, _, _, _] rfl rfl sz_78 rfl rfl rfl ?_;refine Zz ?_;refine Zq [0, 1, 3, 4, 15, 16, 17] 3 [] rfl rfl ?_;refine Zg rfl fo_78_0 rfl ag_3 rfl ?_;refine GT_S rfl (V_eql rfl rfl rfl) ?_;refine GT_nil ?_;refine GE_cond rfl (fun h2 => ?_) (fun h2 => ?_)
      · rw [← cStamp_zero] at hQ1
        refine Zq [0, 1, 3, 15, 16, 17] 4 [2] rfl rfl ?_;refine Zl rfl ag_86 rfl ?_;refine Zv rfl ?_;refine ZC rfl rn_76 (fun w hw => C_under (plate := i) (frm := 0) ⟨BlkAt.of hw, hp.sh hw, hO3.rdH eI_len hw, hO4.rdH eI_len hw⟩ hR) (fun _ _ => GR_nil) (fun u hu => ?_)
        have hul := under_len p d side i 0
        refine Zv rfl ?_;refine Zz ?_;refine Zp 3 [] rfl ?_;refine Zv rfl ?_;refine Zn rfl Tryz.underlying93 ?_;refine Zv rfl ?_;refine GT_nil ?_;refine GE_block ?_;refine GE_to (GE_loop (ι := Nat × Items) (fun x => d.length - x.1) (fun x => [(0, .func (.yield lp) #[] #[]), (1, ptr bb 0), (3, I i), (5, .slice (some ⟨u.1, 0, none⟩) d.length d.length), (15, .slice A p.length c), (16, I p.length), (17, I i), (28, .slice (some ⟨u.1, 0, none⟩) d.length d.length), (29, I d.length), (30, I x.1)]) (fun x => x.2 ++ (u.2 ++ (bb, blk [ptr g 0] 86) :: (g, blk (roomC A A3 A4 p.length d.length c c3 c4) 127) :: (I3 ++ (I4 ++ G)))) (fun x => x.1 ≤ d.length ∧ Q (cStamp p d side i x.1) x.2) ?_ (0, J1) ?_) ⟨rfl, rfl, rfl, rfl, rfl, rfl, rfl, rfl, rfl, rfl, trivial⟩ (HS.chunk (HS.chunk (HS.cons rfl (HS.cons rfl (HS.chunk (HS.chunk HS.last))))))
        · rintro ⟨k, J2⟩ ⟨hk, hQ2⟩ ih2; dsimp only at hk hQ2 ih2 ⊢
          refine Zp 1 [] rfl ?_;refine GT_S rfl (V_lss rfl rfl rfl) ?_;refine Zz ?_;refine GE_cond rfl (fun h3 => ?_) (fun h3 => ?_)
          · have hkl : k < d.length := (by omega)
            refine GE_skip ?_;refine GE_seq ?_;refine GE_block ?_;refine Zp 5 [] rfl ?_;refine Zv rfl ?_;refine GT_S rfl (V_index rfl rfl rfl Tryz.underlying93 sz_4 (k := k) rfl hkl rfl) ?_;refine ZL rfl ag_4 (CellAt.own0 hu eB_len (by omega) rfl) ?_;refine Zr 2 rfl ?_;refine Zz ?_;refine Zs [0, 1, 3, 5, 6, 7, 15, 16, 17, 28, 29, 30] rfl ?_;refine GE_drawn (.st 0 (.st 1 (.st 2 (.st 3 (.st 4 (.st 5 (.st 6 (.st 7 (.st 8 (.st 9 (.st 10 (.st 11 (.st 12 (.st 13 (.st 14 (.ld 15 [2, 3, 4, 5, 6, 7, 8, 9, 10, 11] (.st 16 (.ld 17 [] (.st 18 (.st 19 .nil)))))))))))))))))))) [15, 17] (by decide +kernel) ?_;refine Zr 2 rfl ?_;refine GT_splitB (d := 36) rfl (fun h4 => ?_) (fun h4 => ?_)
            · refine Zr 2 rfl ?_;refine Zl rfl ag_86 rfl ?_;refine Zv rfl ?_;refine Zg rfl fo_127_1 rfl ag_43 rfl ?_;refine Zv rfl ?_;refine GT_S rfl (V_index rfl rfl rfl Tryz.underlying43 sz_2 (k := k) rfl hkl (hO3.isSome (k := k) (by omega))) ?_;refine ZL rfl ag_2 (CellAt.own0 hO3 eI_len (by omega) (by rw [serS_get hkl]; rfl)) ?_;refine GT_S rfl (V_build (vs := [_, _]) rfl rfl zc_91 pl_91 sa_91 rfl) ?_;refine Zl rfl ag_86 rfl ?_;refine Zr 2 rfl ?_;refine ZC rfl rn_77 (fun w hw => (by have := C_from (c := d.length) (v0 := ptr g 0) (k := k) rfl (hu.rdH eB_len hw) (by omega) (by omega); rw [hul] at this; exact this)) (fun _ _ => Rv rfl rfl (Rv rfl rfl (Rl rfl ag_86 rfl rfl (Rv rfl rfl (Rf rfl fo_127_1 rfl (Rl rfl ag_43 rfl rfl (Rv rfl rfl (GR_S rfl rfl (V_index rfl rfl rfl Tryz.underlying43 sz_2 (k := k) rfl hkl (hO3.isSome (k := k) (by omega))) (GR_S rfl rfl (V_load rfl rfl ag_2 (CellAt.own0 hO3 eI_len (by omega) (by rw [serS_get hkl]; rfl))) (GR_S rfl rfl (V_build (vs := [_, _]) rfl rfl zc_91 pl_91 sa_91 rfl) GR_nil)))))))))) (fun z hz => ?_)
              rw [fromK_len, hul] at hz ⊢
              refine GT_S rfl (V_build (vs := [_, _, _]) rfl rfl zc_95 pl_95 sa_95 rfl) ?_;refine GT_yield_g rfl rfl rfl rfl rfl rfl rfl rfl rfl rfl (YieldTo.chunkR (hY _ ⟨i, (d.getD k default).ser, fromK (under p d side i 0) k⟩ _ _ _ _ (cStamp_len hdl hpl hil hkl) (stamp1_mem hil hkl h2 h4) hQ2 hz _)) (fun _ _ _ => GR_nil) (fun v H' hR => ?_)
              obtain ⟨q, J3, rfl, rfl, hQ3, hS⟩ := hR
              refine GT_S rfl (V_notB rfl rfl) ?_;refine Zv rfl ?_;refine GT_nil ?_;refine GE_condNotB rfl (fun h5 => ?_) (fun h5 => ?_)
              · have hS := hS (by simpa using h5)
                refine GE_ret Tryz.func75 rfl (fun w hw => ?_)
                exact ⟨J3, .inr hS, SH.hs (C := cx Tryz.prog hm 0 0 w0 none' fun _ _ => True) hw (HS.chunk (HS.cons rfl (HS.cons rfl (HS.chunk (HS.chunk HS.last)))))⟩
              · have hQ3 := hQ3 (by simpa using h5)
                refine GE_skip ?_;refine GE_inBlock ?_;refine Zs [0, 1, 3, 5, 15, 16, 17, 28, 29, 30, 37, 38, 39, 40, 41, 42, 43, 44, 45, 46, 47, 48, 49, 50, 51, 52, 53] rfl ?_;refine ZP 2 [1] rfl ?_;refine Za rfl (by omega) ?_;refine Zw rfl ?_;refine GT_nil ?_
                first
                  | exact GE_to (ih2 (k + 1, J3) ⟨by dsimp only; omega, by rw [cStamp_succ, stamp1_yes h4]; exact hQ3⟩ (by dsimp only; omega)) ⟨rfl, rfl, rfl, rfl, rfl, rfl, rfl, rfl, rfl, rfl, trivial⟩ (HS.chunk (HS.chunk (HS.cons rfl (HS.cons rfl (HS.chunk (HS.chunk HS.last))))))
                  | exact GE_to (ih2 (k + 1, J2) ⟨by dsimp only; omega, by rw [cStamp_succ, stamp1_no h4, List.append_nil]; exact hQ2⟩ (by dsimp only; omega)) ⟨rfl, rfl, rfl, rfl, rfl, rfl, rfl, rfl, rfl, rfl, trivial⟩ (HS.chunk (HS.chunk (HS.cons rfl (HS.cons rfl (HS.chunk (HS.chunk HS.last))))))
            · refine Zr 13 rfl ?_;refine GT_skip_ld rfl rfl rfl rfl rfl (by decide) rfl rfl rfl (Rv rfl rfl (Rv rfl rfl (Rv rfl rfl (Rv rfl rfl (Rv rfl rfl (Rv rfl rfl (Rv rfl rfl (Rv rfl rfl (Rv rfl rfl (Rv rfl rfl GR_nil)))))))))) ?_;refine Zv rfl ?_;refine GT_skip_ld rfl rfl rfl rfl rfl (by decide) rfl rfl rfl GR_nil ?_;refine Zr 2 rfl ?_;refine GT_nil ?_;refine GE_cond_f rfl ?_;refine GE_skip ?_;refine GE_inBlock ?_;refine Zs [0, 1, 3, 5, 15, 16, 17, 28, 29, 30, 37, 38, 39, 40, 41, 42, 43, 44, 45, 46, 47, 48, 49, 50, 51, 52, 53] rfl ?_;refine ZP 2 [1] rfl ?_;refine Za rfl (by omega) ?_;refine Zw rfl ?_;refine GT_nil ?_
              first
                | exact GE_to (ih2 (k + 1, J3) ⟨by dsimp only; omega, by rw [cStamp_succ, stamp1_yes h4]; exact hQ3⟩ (by dsimp only; omega)) ⟨rfl, rfl, rfl, rfl, rfl, rfl, rfl, rfl, rfl, rfl, trivial⟩ (HS.chunk (HS.chunk (HS.cons rfl (HS.cons rfl (HS.chunk (HS.chunk HS.last))))))
                | exact GE_to (ih2 (k + 1, J2) ⟨by dsimp only; omega, by rw [cStamp_succ, stamp1_no h4, List.append_nil]; exact hQ2⟩ (by dsimp only; omega)) ⟨rfl, rfl, rfl, rfl, rfl, rfl, rfl, rfl, rfl, rfl, trivial⟩ (HS.chunk (HS.chunk (HS.cons rfl (HS.cons rfl (HS.chunk (HS.chunk HS.last))))))
          · obtain rfl : k = d.length := (by omega)
            refine GE_exit rfl ?_;refine GE_exit rfl ?_;refine Zs [0, 1, 15, 16, 17] rfl ?_;refine ZP 2 [1] rfl ?_;refine Za rfl (by omega) ?_;refine Zw rfl ?_;refine GT_nil ?_
            first
              | exact GE_to (ih (i + 1, J2) ⟨by dsimp only; omega, by rw [← cStamp_end h2]; exact hQ2⟩ (by dsimp only; omega)) ⟨rfl, rfl, rfl, rfl, rfl, trivial⟩ (HS.chunk (HS.cons rfl (HS.cons rfl (HS.chunk (HS.chunk HS.last)))))
              | exact GE_to (ih (i + 1, J2) ⟨by dsimp only; omega, by rw [← cChild_end h2]; exact hQ2⟩ (by dsimp only; omega)) ⟨rfl, rfl, rfl, rfl, rfl, trivial⟩ (HS.chunk (HS.cons rfl (HS.cons rfl (HS.chunk (HS.chunk HS.last)))))
        · exact ⟨Nat.zero_le _, hQ1⟩
      · rw [← cChild_one] at hQ1
        refine GE_skip ?_;refine Zq [0, 1, 3, 15, 16, 17] 3 [] rfl rfl ?_;refine Zv rfl ?_;refine Za rfl (by omega) ?_;refine Zv rfl ?_;refine GT_nil ?_;refine GE_block ?_;refine GE_to (GE_loop (ι := Nat × Items) (fun x => p.length - x.1) (fun x => [(0, .func (.yield lp) #[] #[]), (1, ptr bb 0), (3, I i), (8, I x.1), (15, .slice A p.length c), (16, I p.length), (17, I i)]) (fun x => x.2 ++ (bb, blk [ptr g 0] 86) :: (g, blk (roomC A A3 A4 p.length d.length c c3 c4) 127) :: (I3 ++ (I4 ++ G))) (fun x => i + 1 ≤ x.1 ∧ x.1 ≤ p.length ∧ Q (cChild p d side i x.1) x.2) ?_ (i + 1, J1) ?_) ⟨rfl, rfl, rfl, rfl, rfl, rfl, rfl, trivial⟩ (HS.chunk (HS.cons rfl (HS.cons rfl (HS.chunk (HS.chunk HS.last)))))
        · rintro ⟨k, J2⟩ ⟨hik, hk, hQ2⟩ ih2; dsimp only at hik hk hQ2 ih2 ⊢
          refine GE_seq ?_;refine Zp 7 [] rfl ?_;refine Zv rfl ?_;refine Zl rfl ag_86 rfl ?_;refine Zv rfl ?_;refine Zg rfl fo_127_0 rfl ag_34 rfl ?_;refine Zn rfl Tryz.underlying34 ?_;refine GT_S rfl (V_lss rfl rfl rfl) ?_;refine GT_nil ?_;refine GE_cond rfl (fun h3 => ?_) (fun h3 => ?_)
          · have hkl : k < p.length := (by omega)
            refine GE_skip ?_;refine GE_seq ?_;refine GE_block ?_;refine Zq [0, 1, 3, 8, 15, 16, 17] 23 [18, 20] rfl rfl ?_;refine Zl rfl ag_86 rfl ?_;refine Zv rfl ?_;refine Zg rfl fo_127_0 rfl ag_34 rfl ?_;refine Zv rfl ?_;refine GT_S rfl (V_index rfl rfl rfl Tryz.underlying34 sz_78 (k := k) rfl hkl (hp.isSome (k := k) (by omega))) ?_;refine GT_S rfl (V_fieldA rfl rfl fo_78_1) ?_;refine ZL rfl ag_3 (hp.at1 noM hkl rfl) ?_;refine Zv rfl ?_;refine GT_S rfl (V_eql rfl rfl rfl) ?_;refine Zv rfl ?_;refine GT_split (d := 77) rfl (fun h4 => ?_) (fun h4 => ?_)
            · refine Zr 3 rfl ?_;refine GT_S rfl (V_build (vs := [_, _]) rfl rfl zc_91 pl_91 sa_91 rfl) ?_;refine Zl rfl ag_86 rfl ?_;refine Zr 2 rfl ?_;refine ZC rfl rn_76 (fun w hw => C_under (plate := i) (frm := k) ⟨BlkAt.of hw, hp.sh hw, hO3.rdH eI_len hw, hO4.rdH eI_len hw⟩ hR) (fun _ _ => GR_nil) (fun z hz => ?_);refine GT_S rfl (V_build (vs := [_, _, _]) rfl rfl zc_95 pl_95 sa_95 rfl) ?_;refine GT_yield_g rfl rfl rfl rfl rfl rfl rfl rfl rfl rfl (YieldTo.chunkR (hY _ ⟨i, k, under p d side i k⟩ _ _ d.length _ (cChild_len hdl hpl hil hkl) (child1_mem hil hkl h2 (by omega) h4) hQ2 hz _)) (fun _ _ _ => GR_nil) (fun v H' hR => ?_)
              obtain ⟨q, J3, rfl, rfl, hQ3, hS⟩ := hR
              refine GT_S rfl (V_notB rfl rfl) ?_;refine Zv rfl ?_;refine GT_nil ?_;refine GE_condNotB rfl (fun h5 => ?_) (fun h5 => ?_)
              · have hS := hS (by simpa using h5)
                refine GE_ret Tryz.func75 rfl (fun w hw => ?_)
                exact ⟨J3, .inr hS, SH.hs (C := cx Tryz.prog hm 0 0 w0 none' fun _ _ => True) hw (HS.chunk (HS.cons rfl (HS.cons rfl (HS.chunk (HS.chunk HS.last)))))⟩
              · have hQ3 := hQ3 (by simpa using h5)
                refine GE_skip ?_;refine GE_inBlock ?_;refine Zs [0, 1, 3, 8, 15, 16, 17, 78, 79, 80, 81, 82, 83, 84, 85, 86, 87, 88] rfl ?_;refine ZP 3 [2] rfl ?_;refine Zv rfl ?_;refine Za rfl (by omega) ?_;refine Zw rfl ?_;refine GT_nil ?_
                first
                  | exact GE_to (ih2 (k + 1, J3) ⟨by dsimp only; omega, by dsimp only; omega, by rw [cChild_succ]; unfold child1; rw [if_pos ⟨by omega, h4⟩]; exact hQ3⟩ (by dsimp only; omega)) ⟨rfl, rfl, rfl, rfl, rfl, rfl, rfl, trivial⟩ (HS.chunk (HS.cons rfl (HS.cons rfl (HS.chunk (HS.chunk HS.last)))))
                  | exact GE_to (ih2 (k + 1, J2) ⟨by dsimp only; omega, by dsimp only; omega, by rw [cChild_succ]; unfold child1; rw [if_neg (fun q => h4 q.2), List.append_nil]; exact hQ2⟩ (by dsimp only; omega)) ⟨rfl, rfl, rfl, rfl, rfl, rfl, rfl, trivial⟩ (HS.chunk (HS.cons rfl (HS.cons rfl (HS.chunk (HS.chunk HS.last)))))
            · refine Zr 7 rfl ?_;refine GT_skip_ld rfl rfl rfl rfl rfl (by decide) rfl rfl rfl GR_nil ?_;refine Zv rfl ?_;refine GT_skip_ld rfl rfl rfl rfl rfl (by decide) rfl rfl rfl GR_nil ?_;refine Zr 2 rfl ?_;refine GT_nil ?_;refine GE_cond_f rfl ?_;refine GE_skip ?_;refine GE_inBlock ?_;refine Zs [0, 1, 3, 8, 15, 16, 17, 78, 79, 80, 81, 82, 83, 84, 85, 86, 87, 88] rfl ?_;refine ZP 3 [2] rfl ?_;refine Zv rfl ?_;refine Za rfl (by omega) ?_;refine Zw rfl ?_;refine GT_nil ?_
              first
                | exact GE_to (ih2 (k + 1, J3) ⟨by dsimp only; omega, by dsimp only; omega, by rw [cChild_succ]; unfold child1; rw [if_pos ⟨by omega, h4⟩]; exact hQ3⟩ (by dsimp only; omega)) ⟨rfl, rfl, rfl, rfl, rfl, rfl, rfl, trivial⟩ (HS.chunk (HS.cons rfl (HS.cons rfl (HS.chunk (HS.chunk HS.last)))))
                | exact GE_to (ih2 (k + 1, J2) ⟨by dsimp only; omega, by dsimp only; omega, by rw [cChild_succ]; unfold child1; rw [if_neg (fun q => h4 q.2), List.append_nil]; exact hQ2⟩ (by dsimp only; omega)) ⟨rfl, rfl, rfl, rfl, rfl, rfl, rfl, trivial⟩ (HS.chunk (HS.cons rfl (HS.cons rfl (HS.chunk (HS.chunk HS.last)))))
          · obtain rfl : k = p.length := (by omega)
            refine GE_exit rfl ?_;refine GE_inBlock ?_;refine Zs [0, 1, 15, 16, 17] rfl ?_;refine ZP 2 [1] rfl ?_;refine Za rfl (by omega) ?_;refine Zw rfl ?_;refine GT_nil ?_
            first
              | exact GE_to (ih (i + 1, J2) ⟨by dsimp only; omega, by rw [← cStamp_end h2]; exact hQ2⟩ (by dsimp only; omega)) ⟨rfl, rfl, rfl, rfl, rfl, trivial⟩ (HS.chunk (HS.cons rfl (HS.cons rfl (HS.chunk (HS.chunk HS.last)))))
              | exact GE_to (ih (i + 1, J2) ⟨by dsimp only; omega, by rw [← cChild_end h2]; exact hQ2⟩ (by dsimp only; omega)) ⟨rfl, rfl, rfl, rfl, rfl, trivial⟩ (HS.chunk (HS.cons rfl (HS.cons rfl (HS.chunk (HS.chunk HS.last)))))
        · exact ⟨Nat.le_refl _, by dsimp only; omega, hQ1⟩
    · obtain rfl : i = p.length := (by omega)
      refine GE_exit rfl ?_;refine Zq [0, 1] 6 [] rfl rfl ?_;refine Zl rfl ag_86 rfl ?_;refine Zv rfl ?_;refine Zg rfl fo_127_1 rfl ag_43 rfl ?_;refine Zn rfl Tryz.underlying43 ?_;refine Zv rfl ?_;refine GT_nil ?_;refine GE_block ?_;refine GE_to (GE_loop (ι := Nat × Items) (fun x => d.length - x.1) (fun x => [(0, .func (.yield lp) #[] #[]), (1, ptr bb 0), (94, .slice A3 d.length c3), (95, I d.length), (96, I x.1)]) (fun x => x.2 ++ (bb, blk [ptr g 0] 86) :: (g, blk (roomC A A3 A4 p.length d.length c c3 c4) 127) :: (I3 ++ (I4 ++ G))) (fun x => x.1 ≤ d.length ∧ Q (cAlone p d side x.1) x.2) ?_ (0, J1) ?_) ⟨rfl, rfl, rfl, rfl, rfl, trivial⟩ (HS.chunk (HS.cons rfl (HS.cons rfl (HS.chunk (HS.chunk HS.last)))))
      · rintro ⟨k, J2⟩ ⟨hk, hQ2⟩ ih2; dsimp only at hk hQ2 ih2 ⊢
        refine Zp 1 [] rfl ?_;refine GT_S rfl (V_lss rfl rfl rfl) ?_;refine Zz ?_;refine GE_cond rfl (fun h3 => ?_) (fun h3 => ?_)
        · have hkl : k < d.length := (by omega)
          refine GE_skip ?_;refine GE_seq ?_;refine GE_block ?_;refine Zp 5 [] rfl ?_;refine Zv rfl ?_;refine GT_S rfl (V_index rfl rfl rfl Tryz.underlying43 sz_2 (k := k) rfl hkl (hO3.isSome (k := k) (by omega))) ?_;refine ZL rfl ag_2 (CellAt.own0 hO3 eI_len (by omega) (by rw [serS_get hkl]; rfl)) ?_;refine Zr 2 rfl ?_;refine GT_nil ?_;refine Zq [0, 1, 9, 10, 94, 95, 96] 7 [5] rfl rfl ?_;refine Zl rfl ag_86 rfl ?_;refine Zv rfl ?_;refine Zg rfl fo_127_1 rfl ag_43 rfl ?_;refine Zn rfl Tryz.underlying43 ?_;refine GT_makeSlice rfl rfl rfl rfl rfl rfl rfl Tryz.underlying93 zc_4 sz_4 by_4 ⟨rfl, rfl, rfl⟩ ⟨by omega, by omega⟩ (fun _ => GR_nil) (fun b106 => ?_);refine Zv rfl ?_;refine GT_nil ?_;refine Zq [0, 1, 9, 10, 11, 94, 95, 96] 4 [3] rfl rfl ?_;refine Zr 2 rfl ?_;refine GT_S rfl (V_index rfl rfl rfl Tryz.underlying93 sz_4 (k := k) rfl hkl rfl) ?_;refine GT_storeOwn (enc := eB) (q := k) (xx := true) rfl rfl rfl rfl rfl rfl rfl sz_4 (show Own 1 4 eB (List.replicate d.length false) (.slice (some ⟨b106, 0, none⟩) d.length d.length) [(b106, blk ((List.replicate d.length [.bool false]).flatten) 4)] from Own.made (x := false) rfl (Nat.le_trans hdl (by decide))) eB_len eB_one (by simp; omega) (by decide) (fun _ _ => GR_nil) (fun I2 hO2 => ?_);refine GT_nil ?_;refine Zq [0, 1, 10, 11, 94, 95, 96] 7 [5] rfl rfl ?_;refine Zr 2 rfl ?_;refine GT_S rfl (V_build (vs := [_, _]) rfl rfl zc_91 pl_91 sa_91 rfl) ?_;refine Zv rfl ?_;refine GT_S rfl (V_build (vs := [_, _, _]) rfl rfl zc_95 pl_95 sa_95 rfl) ?_;refine GT_yield rfl rfl rfl rfl rfl rfl rfl (YieldTo.chunkR (hY _ (alone1 d k) _ _ d.length _ (cAlone_len hdl hpl hkl) (alone1_mem hkl) hQ2 hO2 _)) (fun _ _ _ => GR_nil) (fun v H' hR => ?_)
          obtain ⟨q, J3, rfl, rfl, hQ3, hS⟩ := hR
          refine GT_S rfl (V_notB rfl rfl) ?_;refine GT_nil ?_;refine GE_condNotB rfl (fun h5 => ?_) (fun h5 => ?_)
          · have hS := hS (by simpa using h5)
            refine GE_ret Tryz.func75 rfl (fun w hw => ?_)
            exact ⟨J3, .inr hS, SH.hs (C := cx Tryz.prog hm 0 0 w0 none' fun _ _ => True) hw (HS.chunk (HS.cons rfl (HS.cons rfl (HS.chunk (HS.chunk HS.last)))))⟩
          · have hQ3 := hQ3 (by simpa using h5)
            refine GE_skip ?_;refine GE_inBlock ?_;refine Zs [0, 1, 94, 95, 96] rfl ?_;refine ZP 2 [1] rfl ?_;refine Za rfl (by omega) ?_;refine Zw rfl ?_;refine GT_nil ?_
            exact GE_to (ih2 (k + 1, J3) ⟨by dsimp only; omega, by rw [cAlone_succ]; exact hQ3⟩ (by dsimp only; omega)) ⟨rfl, rfl, rfl, rfl, rfl, trivial⟩ (HS.chunk (HS.cons rfl (HS.cons rfl (HS.chunk (HS.chunk HS.last)))))
        · obtain rfl : k = d.length := (by omega)
          refine GE_exit rfl ?_;refine GE_end Tryz.func75 rfl (fun w hw => ?_)
          exact ⟨J2, .inl hQ2, hw⟩
      · exact ⟨Nat.zero_le _, by rw [cAlone_zero]; exact hQ1⟩
  · exact ⟨Nat.zero_le _, hQ⟩
end
end Go.Proofs.YtncleikbggjmjaaGreatDoor.Lis
/- Which causes are left, walked. -/
namespace Go.Proofs.YtncleikbggjmjaaGreatDoor.Lis
open Go.Sx Go.Proofs
structure SusA where
  x : Sus
  A : Option Addr
  n : Nat
  c : Nat
instance : Inhabited SusA := ⟨⟨default, none, 0, 0⟩⟩
def eSus (y : SusA) : List Value := [I y.x.plate, I y.x.frm, .slice y.A y.n y.c]
theorem eSus_len (y : SusA) : (eSus y).length = 3 := rfl
theorem eSus_one : ∀ x, ∀ u ∈ eSus x, u.oneCell' = true := by intro x u hu; simp only [eSus, List.mem_cons, List.not_mem_nil, or_false] at hu; rcases hu with rfl | rfl | rfl <;> rfl
def Hold (I : Items) (l : List SusA) : Prop := ∀ w0 M w, SH w0 M I w → ∀ y ∈ l, RdL w 1 eB y.A y.x.has
theorem Hold.nil {I : Items} : Hold I [] := fun _ _ _ _ _ h => by cases h
theorem Hold.snoc {I Ix : Items} {l : List SusA} {y : SusA} {t : TypeId} (h : Hold I l) (hx : Own 1 t eB y.x.has (.slice y.A y.n y.c) Ix) : Hold (Ix ++ I) (l ++ [y]) := by
  intro w0 M w m z hz
  rcases List.mem_append.1 hz with hz | hz
  · exact h w0 M w (m.chunk (I := I)) z hz
  · rw [List.mem_singleton.1 hz]; exact hx.rdH eB_len m
structure LeftL (d : List Dsc) (xs : List Sus) (l : List SusA) (Al : Option Addr) (cl : Nat) (Il Ih : Items) : Prop where
  eq : l.map SusA.x = xs
  own : Own 3 95 eSus l (.slice Al l.length cl) Il
  hold : Hold Ih l
  n : ∀ y ∈ l, y.n = d.length ∧ y.x.has.length = d.length
theorem LeftL.nil {d : List Dsc} : LeftL d [] [] none 0 [] [] := ⟨rfl, Own.nil, Hold.nil, fun y h => by cases h⟩
theorem LeftL.len {d : List Dsc} {xs : List Sus} {l : List SusA} {Al : Option Addr} {cl : Nat} {Il Ih : Items} (h : LeftL d xs l Al cl Il Ih) : l.length = xs.length := by rw [← h.eq, List.length_map]
structure LeftY where
  g : Nat
  A3 : Option Addr
  c3 : Nat
  I3 : Items
  A4 : Option Addr
  c4 : Nat
  I4 : Items
  l : List SusA
  Al : Option Addr
  cl : Nat
  Il : Items
  Ih : Items
structure LeftOk (p : List Plt) (d : List Dsc) (side : Int) (h : List Hrg) (y : LeftY) : Prop where
  o3 : Own 1 2 eI (serS d) (.slice y.A3 d.length y.c3) y.I3
  o4 : Own 1 3 eI (stmS d side) (.slice y.A4 d.length y.c4) y.I4
  l : LeftL d (leftS p d side h) y.l y.Al y.cl y.Il y.Ih
def LeftY.items (y : LeftY) (A : Option Addr) (np n c : Nat) : Items := (y.g, blk (roomC A y.A3 y.A4 np n c y.c3 y.c4) 127) :: (y.I3 ++ (y.I4 ++ (y.Il ++ y.Ih)))
section
variable {p : List Plt} {d : List Dsc} {h : List Hrg} {A A2 A5 : Option Addr} {c c2 c5 : Nat} {side : Int} {w : World}
theorem C_all {g : Nat} : Con Tryz.prog 50 [ptr g 0] w (fun _ : Nat => True) (fun bb => .func (.func 75) #[] #[ptr bb 0]) (fun bb => [(bb, blk [ptr g 0] 86)]) := by
  refine Ret_of (vs := [_]) hm none' Tryz.func50 rfl Tryz.ntmps50 rfl ?_
  dsimp only [slotsOf]
  refine Zp 2 [0] rfl ?_;refine Zx [_] rfl rfl fun b1 => ?_;refine Zv rfl ?_;refine GT_nil ?_;refine Zp 2 [] rfl ?_;refine GT_S rfl (V_makeFunc rfl rfl rfl) ?_;refine Zv rfl ?_;refine GT_nil ?_;refine GE_ret Tryz.func50 rfl (fun w hw => ⟨b1, trivial, rfl, hw⟩)
  skip
def Idx (d : List Dsc) (h : List Hrg) (k : Nat) (l : List Int) : Prop := l.length = h.length ∧ ∀ q, q < k → known d (h.getD q default).ser = true ∧ idxS d (h.getD q default).ser < d.length ∧ l.getD q default = idxS d (h.getD q default).ser
theorem agree_take {x : Sus} {k : Nat} (hk : k < h.length) : agree d (h.take (k + 1)) x = (agree d (h.take k) x && agree1 d x (h.getD k default)) := by
  unfold agree
  rw [List.take_succ_eq_append_getElem hk, List.all_append]
  simp [List.getD, hk]
theorem agree_bad {x : Sus} {k : Nat} (hk : k < h.length) (hb : agree1 d x (h.getD k default) = false) : agree d h x = false := by
  rw [← Bool.not_eq_true]
  unfold agree
  intro q
  have := List.all_eq_true.1 q (h.getD k default) (by simp [List.getD, hk])
  rw [hb] at this; cases this
theorem j5 {a b c d : Nat × Obj} {I J K G : Items} : (a :: b :: c :: d :: (I ++ (J ++ K))) ++ G = a :: b :: c :: d :: (I ++ (J ++ (K ++ G))) := by simp
theorem j6 {a b c d : Nat × Obj} {I J K M G : Items} : (a :: b :: c :: d :: (I ++ (J ++ (K ++ M)))) ++ G = a :: b :: c :: d :: (I ++ (J ++ (K ++ (M ++ G)))) := by simp
set_option maxRecDepth 10000 in
set_option maxHeartbeats 2000000 in
theorem C_left (hp : RdL w 7 ePlt A p) (hwf : ∀ x ∈ p, Plt.wf x) (hd : RdL w 7 eDsc A2 d) (hdf : ∀ x ∈ d, Dsc.wf x) (hh : RdL w 2 eHrg A5 h) :
    Con Tryz.prog 25 [.slice A p.length c, .slice A2 d.length c2, I side, .slice A5 h.length c5] w (fun o : Option LeftY => match o with | none => hearE p d side h ≠ 0 | some y => hearE p d side h = 0 ∧ LeftOk p d side h y)
      (fun o => match o with | none => .tuple #[.pointer none, .slice none 0 0, I (hearE p d side h)] | some y => .tuple #[ptr y.g 0, .slice y.Al y.l.length y.cl, I 0]) (fun o => match o with | none => [] | some y => y.items A p.length d.length c) := by
  by_cases hb : beginE p d side = 0
  · have hR := beginE_zero.1 hb
    have hE : hearE p d side h = if 200 < h.length then 6 else if h.all (fun y => known d y.ser) then 0 else 5 := if_pos hb
    have hls := serS_len d
    have hlm := stmS_len d side
    have hdl := hR.dl
    refine Ret_of (vs := [_, _, _, _]) hm none' Tryz.func25 rfl Tryz.ntmps25 rfl ?_
    dsimp only [slotsOf]
    refine Zp 4 [0] rfl ?_;refine Zx [_] rfl rfl fun b7 => ?_;refine Zr 3 rfl ?_;refine GT_nil ?_;refine GE_scope ?_;refine Zp 9 [3] rfl ?_;refine Zr 3 rfl ?_;refine ZC rfl rn_48 (fun w hw => C_newRoom_ok (hp.sh hw) hwf (hd.sh hw) hdf hR) (fun _ _ => GR_nil) (fun r hr => ?_)
    obtain ⟨g, ⟨A3, c3, I3⟩, A4, c4, I4⟩ := r; obtain ⟨hO3, hO4⟩ := hr; dsimp only at hO3 hO4 ⊢; rw [hls] at hO3; rw [hlm] at hO4
    refine Zr 5 rfl ?_;refine Zz ?_;refine Zq [7, 8, 9, 10, 11, 12] 2 [] rfl rfl ?_;refine Zv rfl ?_;refine GT_S rfl (V_neq rfl rfl rfl) ?_;refine GT_nil ?_;refine GE_condNot rfl (fun h0 => ?_) (fun h0 => ?_)
    · exact absurd rfl h0
    · refine GE_skip ?_;refine GE_seq ?_;refine Zp 3 [] rfl ?_;refine Zl rfl ag_45 rfl ?_;refine Zn rfl Tryz.underlying45 ?_;refine GT_S rfl (V_gtr rfl rfl rfl) ?_;refine GT_nil ?_;refine GE_cond rfl (fun h1 => ?_) (fun h1 => ?_)
      · rw [if_pos (by omega)] at hE
        refine Zq [] 3 [] rfl rfl ?_;refine Zr 3 rfl ?_;refine GT_nil ?_;refine GE_ret Tryz.func25 ⟨_, _, _, rfl, rfl, rfl, rfl⟩ (fun w hw => ?_)
        exact ⟨none, show hearE p d side h ≠ 0 from (by rw [hE]; decide), by rw [hE], hw.nil⟩
      · rw [if_neg (by omega)] at hE
        refine GE_skip ?_;refine Zq [7, 8, 9, 10, 11] 5 [2, 3, 4] rfl rfl ?_;refine Zl rfl ag_45 rfl ?_;refine Zn rfl Tryz.underlying45 ?_;refine GT_makeSlice rfl rfl rfl rfl rfl rfl rfl Tryz.underlying38 zc_3 sz_3 by_3 ⟨rfl, rfl, rfl⟩ ⟨by omega, by omega⟩ (fun _ => GR_nil) (fun b37 => ?_);refine Zb rfl zc_38 fun b13 => ?_;refine ZS [_] [_] rfl rfl sz_38 rfl rfl rfl ?_;refine Zz ?_;refine Zp 3 [] rfl ?_;refine Zl rfl ag_45 rfl ?_;refine Zn rfl Tryz.underlying45 ?_;refine Zv rfl ?_;refine GT_nil ?_;refine GE_block ?_;refine GE_to (GE_loop (ι := Nat × List Int × Items) (fun x => h.length - x.1) (fun x => [(7, ptr b7 0), (11, ptr g 0), (13, ptr b13 0), (38, .slice A5 h.length c5), (39, I h.length), (40, I x.1)]) (fun x => x.2.2 ++ ((b13, blk [.slice (some ⟨b37, 0, none⟩) h.length h.length] 38) :: (b7, blk [.slice A5 h.length c5] 45) :: (g, blk (roomC A A3 A4 p.length d.length c c3 c4) 127) :: (I3 ++ I4))) (fun x => x.1 ≤ h.length ∧ Idx d h x.1 x.2.1 ∧ Own 1 3 eI x.2.1 (.slice (some ⟨b37, 0, none⟩) h.length h.length) x.2.2) ?_ (0, List.replicate h.length 0, [(b37, blk ((List.replicate h.length [I 0]).flatten) 3)]) ?_) ⟨rfl, rfl, rfl, rfl, rfl, rfl, trivial⟩ (show HS _ _ ([(b37, blk ((List.replicate h.length [I 0]).flatten) 3)] ++ _) from HS.chunk (HS.cons rfl (HS.cons rfl (HS.cons rfl (HS.chunk HS.last)))))
        · rintro ⟨k, li, Ii⟩ ⟨hk, hix, hOi⟩ ih; dsimp only at hk hix hOi ih ⊢; have hil := hix.1
          refine Zp 1 [] rfl ?_;refine GT_S rfl (V_lss rfl rfl rfl) ?_;refine Zz ?_;refine GE_cond rfl (fun h2 => ?_) (fun h2 => ?_)
          · have hkl : k < h.length := (by omega)
            refine GE_skip ?_;refine GE_seq ?_;refine GE_block ?_;refine Zp 6 [3, 5] rfl ?_;refine Zv rfl ?_;refine GT_S rfl (V_index rfl rfl rfl Tryz.underlying45 sz_50 (k := k) rfl hkl (hh.isSome hkl)) ?_;refine GT_S rfl (V_loadN (vs := [_, _]) rfl rfl ag_50 sz_50 rfl (hh.ats noM hkl)) ?_;refine Zb rfl zc_50 fun b15 => ?_;refine Zv rfl ?_;refine ZS [_, _] [_, _] rfl rfl sz_50 rfl rfl rfl ?_;refine Zz ?_;refine Zs [7, 11, 13, 14, 15, 38, 39, 40] rfl ?_;refine GE_drawn (.st 0 (.st 1 (.st 2 (.st 3 (.st 4 (.st 5 (.ld 6 [] (.st 7 (.st 8 (.st 9 (.st 10 (.st 11 .nil)))))))))))) [6] (by decide +kernel) ?_;refine Zr 2 rfl ?_;refine Zg rfl fo_127_1 rfl ag_43 rfl ?_;refine Zg rfl fo_50_0 rfl ag_2 rfl ?_;refine ZC rfl rn_49 (fun w hw => C_slices_BinarySearch (p := p) (hO3.rdH eI_len hw) hR.dsok hdl rfl) (fun _ _ => GR_nil) (fun i hi => ?_);refine Zr 5 rfl ?_;refine Zz ?_;refine Zq [7, 11, 13, 14, 16, 17, 38, 39, 40] 2 [] rfl rfl ?_;refine Zv rfl ?_;refine GT_S rfl (V_notB rfl rfl) ?_;refine GT_nil ?_;refine GE_condNotB rfl (fun h3 => ?_) (fun h3 => ?_)
            · have hbad : known d (h.getD k default).ser = false := (by simpa using h3); rw [if_neg (fun q => by have := List.all_eq_true.1 q (h.getD k default) (by simp [List.getD, hkl]); rw [hbad] at this; cases this)] at hE
              refine Zq [] 3 [] rfl rfl ?_;refine Zr 3 rfl ?_;refine GT_nil ?_;refine GE_ret Tryz.func25 ⟨_, _, _, rfl, rfl, rfl, rfl⟩ (fun w hw => ?_)
              exact ⟨none, show hearE p d side h ≠ 0 from (by rw [hE]; decide), by rw [hE], hw.nil⟩
            · have hkn : known d (h.getD k default).ser = true := (by simpa using h3); obtain ⟨hi1, hi2, hi3⟩ := hi hkn
              refine GE_skip ?_;refine ZP 5 [4] rfl ?_;refine Zl rfl ag_38 rfl ?_;refine Zr 2 rfl ?_;refine GT_S rfl (V_index rfl rfl rfl Tryz.underlying38 sz_3 (k := k) rfl hkl rfl) ?_;refine GT_storeOwn (enc := eI) (q := k) (xx := (i : Int)) rfl rfl rfl rfl rfl rfl rfl sz_3 hOi eI_len eI_one (by omega) (by decide) (fun _ _ => GR_nil) (fun Ii2 hOi2 => ?_);refine GT_nil ?_;refine GE_inBlock ?_;refine Zs [7, 11, 13, 38, 39, 40] rfl ?_;refine ZP 2 [1] rfl ?_;refine Za rfl (by omega) ?_;refine Zw rfl ?_;refine GT_nil ?_
              exact GE_to (ih (k + 1, _, Ii2) ⟨by dsimp only; omega, ⟨by simpa using hil, fun q hq => by dsimp only; rw [getD_set (by omega)]; rcases Nat.lt_or_ge q k with r | r; rw [if_neg (by omega)]; exact hix.2 q r; obtain rfl : q = k := (by omega); rw [if_pos rfl]; exact ⟨hkn, by omega, by omega⟩⟩, hOi2⟩ (by dsimp only; omega)) ⟨rfl, rfl, rfl, rfl, rfl, rfl, trivial⟩ (HS.chunk (HS.cons rfl (HS.cons rfl (HS.cons rfl (HS.chunk HS.last)))))
          · obtain rfl : k = h.length := (by omega); have hE0 : hearE p d side h = 0 := hearE_zero.2 ⟨hR, by omega, fun y hy => (by obtain ⟨q, hq, rfl⟩ := List.getElem_of_mem hy; have := (hix.2 q hq).1; simpa [List.getD, hq] using this)⟩
            refine GE_exit rfl ?_;refine Zq [7, 11, 13] 1 [0] rfl rfl ?_;refine Zb rfl zc_87 fun b18 => ?_;refine Zz ?_;refine GE_label ?_;refine GE_seq ?_;refine Zp 2 [1] rfl ?_;refine Zv rfl ?_;refine ZC rfl rn_50 (fun w hw => C_all) (fun _ _ => GR_nil) (fun bb _ => ?_);refine GT_nil ?_;refine GE_block ?_;refine GE_range rfl rfl rn_75 (fun T l5 q r0 hr0 hT hlk w hw => ?_);refine (C_all1 (p := p) (d := d) (side := side) (c := c) (c3 := c3) (c4 := c4) (g := g) (lp := l5) (J := (l5, .loop r0) :: (b7, blk [.slice A5 h.length c5] 45) :: (b13, blk [.slice (some ⟨b37, 0, none⟩) h.length h.length] 38) :: (b18, blk [.slice none 0 0] 87) :: (Ii ++ ([] ++ []))) (G := [(q, .deferred (some []))])
              (Q := fun pre J => ∃ l Al cl Il Ih, LeftL d (pre.filter (agree d h)) l Al cl Il Ih ∧ J = (l5, .loop r0) :: (b7, blk [.slice A5 h.length c5] 45) :: (b13, blk [.slice (some ⟨b37, 0, none⟩) h.length h.length] 38) :: (b18, blk [.slice Al l.length cl] 87) :: (Ii ++ (Il ++ Ih))) (S := fun _ => False)
              hp hO3 hO4 hR ?_ ⟨[], none, 0, [], [], LeftL.nil, rfl⟩ (hw.hs ((show HS _ _ ((l5, .loop r0) :: (b7, _) :: (b13, _) :: (b18, _) :: (Ii ++ ((bb, _) :: (g, _) :: (I3 ++ (I4 ++ [(q, .deferred (some []))]))))) from HS.cons rfl (HS.cons rfl (HS.cons rfl (HS.cons rfl (HS.chunk (HS.cons rfl (HS.cons rfl (HS.chunk (HS.chunk (HS.cons rfl HS.nil)))))))))).eq (by simp)))).mono (fun v w' ⟨J', hJ, hw'⟩ => ?_)
            · intro pre x J Ax cx Ix hpl hx ⟨l, Al, cl, Il, Ih, hLL, hJ⟩ hOx G0; generalize (g, blk (roomC A A3 A4 p.length d.length c c3 c4) 127) :: (I3 ++ G0) = G; subst hJ; subst hr0
              have hxl := causS_len hx
              have hll := hLL.len
              have hfl := List.length_filter_le (agree d h) pre
              have hf2 : (pre ++ [x]).filter (agree d h) = pre.filter (agree d h) ++ if agree d h x then [x] else [] := (by rw [List.filter_append, List.filter_cons, List.filter_nil])
              refine yield_of inferInstance rfl rfl hT hlk rfl rfl hm ?_;refine GE_slots (L' := [(7, ptr b7 0), (13, ptr b13 0), (18, ptr b18 0), (64, .agg #[I x.plate, I x.frm, .slice Ax d.length cx])]) ⟨rfl, rfl, rfl, rfl, trivial⟩ ?_;refine ZP 2 [0, 1] rfl ?_;refine Zb rfl zc_95 fun b19 => ?_;refine ZS [_, _, _] [_, _, _] rfl rfl sz_95 rfl rfl rfl ?_;refine GT_nil ?_;refine GE_beginRound rfl ?_;refine GE_block ?_;refine GE_seq ?_;refine GE_seq ?_;refine GE_gen (l := l5) (fun ob hob => ?_);refine ZP 3 [] rfl ?_;refine Zl rfl ag_45 rfl ?_;refine Zn rfl Tryz.underlying45 ?_;refine Zv rfl ?_;refine GT_nil ?_;refine GE_block ?_;refine GE_to (GE_loop (ι := Nat) (fun k => h.length - k) (fun k => [(13, ptr b13 0), (18, ptr b18 0), (19, ptr b19 0), (65, .slice A5 h.length c5), (66, I h.length), (67, I k)]) (fun k => (l5, ob) :: (b19, blk [I x.plate, I x.frm, .slice Ax d.length cx] 95) :: (Ix ++ ((b7, blk [.slice A5 h.length c5] 45) :: (b13, blk [.slice (some ⟨b37, 0, none⟩) h.length h.length] 38) :: (b18, blk [.slice Al l.length cl] 87) :: (Ii ++ (Il ++ (Ih ++ G)))))) (fun k => k ≤ h.length ∧ agree d (h.take k) x = true) ?_ 0 ?_) ⟨rfl, rfl, rfl, rfl, rfl, rfl, trivial⟩ (HS.cons rfl (HS.cons rfl (HS.chunk (HS.cons rfl (HS.cons rfl (HS.cons rfl (HS.chunk (HS.chunk (HS.chunk HS.last)))))))))
              · rintro k ⟨hk, hag⟩ ih
                refine Zp 1 [] rfl ?_;refine GT_S rfl (V_lss rfl rfl rfl) ?_;refine Zz ?_;refine GE_cond rfl (fun h5 => ?_) (fun h5 => ?_)
                · have hkl : k < h.length := (by omega); obtain ⟨hix1, hix2, hix3⟩ := hix.2 k hkl
                  refine GE_skip ?_;refine GE_seq ?_;refine GE_block ?_;refine Zp 6 [3, 5] rfl ?_;refine Zv rfl ?_;refine GT_S rfl (V_index rfl rfl rfl Tryz.underlying45 sz_50 (k := k) rfl hkl (hh.isSome hkl)) ?_;refine GT_S rfl (V_loadN (vs := [_, _]) rfl rfl ag_50 sz_50 rfl ((by intro i v hi; rw [add_add']; exact CellAt.old (hh.cell k _ (getD_of default hkl) i v hi) (fun e => e)))) ?_;refine Zb rfl zc_50 fun b21 => ?_;refine Zv rfl ?_;refine ZS [_, _] [_, _] rfl rfl sz_50 rfl rfl rfl ?_;refine Zz ?_;refine Zs [13, 18, 19, 20, 21, 65, 66, 67] rfl ?_;refine GE_drawn (.st 0 (.st 1 (.st 2 (.st 3 (.st 4 (.st 5 (.st 6 (.st 7 (.st 8 (.st 9 (.st 10 .nil))))))))))) [] (by decide +kernel) ?_;refine Zg rfl fo_95_1 rfl ag_93 rfl ?_;refine Zl rfl ag_38 rfl ?_;refine Zv rfl ?_;refine GT_S rfl (V_index rfl rfl rfl Tryz.underlying38 sz_3 (k := k) rfl hkl rfl) ?_;refine ZL rfl ag_3 (CellAt.own0 hOi eI_len (by omega) rfl) ?_;refine GT_S rfl (V_index rfl rfl rfl Tryz.underlying93 sz_4 (k := idxS d (h.getD k default).ser) hix3 hix2 (hOx.isSome (k := idxS d (h.getD k default).ser) (by omega))) ?_;refine ZL rfl ag_4 (CellAt.own0 hOx eB_len (by omega) rfl) ?_;refine Zg rfl fo_50_1 rfl ag_4 rfl ?_;refine GT_S rfl (V_neqBB rfl rfl rfl Tryz.underlying4) ?_;refine GT_nil ?_;refine GE_condNotB rfl (fun h6 => ?_) (fun h6 => ?_)
                  · have ha1 : agree1 d x (h.getD k default) = false := (by simpa [agree1] using h6)
                    rw [agree_bad hkl ha1, if_neg (by decide), List.append_nil] at hf2
                    have hLL3 : LeftL d ((pre ++ [x]).filter (agree d h)) l Al cl Il Ih := (by rw [hf2]; exact hLL)
                    refine GE_exit rfl ?_
                    subst hob
                    first
                      | (refine GE_leave none rfl (fun w hw => ⟨_, ⟨true, _, rfl, rfl, fun _ => ⟨_, _, _, _, _, hLL2, rfl⟩, fun q => by cases q⟩, ?_⟩); rw [j6]; exact hw.hs (HS.cons rfl (HS.cons rfl (HS.cons rfl (HS.cons rfl (HS.chunk (HS.chunk (HS.chunk (HS.chunk HS.last)))))))))
                      | (refine GE_leave none rfl (fun w hw => ⟨_, ⟨true, _, rfl, rfl, fun _ => ⟨_, _, _, _, _, hLL3, rfl⟩, fun q => by cases q⟩, ?_⟩); rw [j5]; exact hw.hs (HS.cons rfl (HS.cons rfl (HS.cons rfl (HS.cons rfl (HS.chunk (HS.chunk (HS.chunk HS.last))))))))
                  · have ha1 : agree1 d x (h.getD k default) = true := (by simpa [agree1] using h6)
                    refine GE_skip ?_;refine GE_inBlock ?_;refine Zs [13, 18, 19, 65, 66, 67] rfl ?_;refine ZP 2 [1] rfl ?_;refine Za rfl (by omega) ?_;refine Zw rfl ?_;refine GT_nil ?_
                    exact GE_to (ih (k + 1) ⟨by omega, by rw [agree_take hkl, hag, ha1]; rfl⟩ (by omega)) ⟨rfl, rfl, rfl, rfl, rfl, rfl, trivial⟩ (HS.cons rfl (HS.cons rfl (HS.chunk (HS.cons rfl (HS.cons rfl (HS.cons rfl (HS.chunk (HS.chunk (HS.chunk HS.last)))))))))
                · obtain rfl : k = h.length := (by omega); rw [List.take_length] at hag; rw [hag, if_pos rfl] at hf2
                  refine GE_exit rfl ?_;refine Zs [18, 19] rfl ?_;refine ZP 5 [2, 3, 4] rfl ?_;refine Zl rfl ag_87 rfl ?_;refine ZN [_, _, _] rfl ag_95 sz_95 rfl rfl ?_;refine GT_buildSlice (z := [_, _, _]) rfl rfl rfl rfl rfl Tryz.underlying87 zc_95 sz_95 (by decide) rfl rfl (fun _ => GR_nil) (fun b86 => ?_);refine GT_append (enc := eSus) (m := [⟨x, Ax, d.length, cx⟩]) rfl rfl rfl rfl rfl rfl rfl hLL.own (fun w m => RdL.own' m eSus_len) Tryz.underlying87 zc_95 sz_95 ⟨rfl, by decide⟩ by_95 ⟨by simp only [List.length_singleton]; omega, by simp only [List.length_singleton]; omega⟩ eSus_len eSus_one (fun _ _ _ _ => GR_nil) (fun Al' cl' Il' hO' => ?_)
                  have hLL2 : LeftL d ((pre ++ [x]).filter (agree d h)) (l ++ [⟨x, Ax, d.length, cx⟩]) Al' cl' Il' (Ix ++ Ih) := ⟨by rw [hf2, List.map_append, hLL.eq]; rfl, hO', hLL.hold.snoc hOx, fun y hy => by rcases List.mem_append.1 hy with hy | hy; exact hLL.n y hy; rw [List.mem_singleton.1 hy]; exact ⟨rfl, hxl⟩⟩
                  refine ZS [_] [_] rfl rfl sz_87 rfl rfl rfl ?_;refine GT_nil ?_;refine GE_inBlock ?_
                  subst hob
                  first
                    | (refine GE_leave none rfl (fun w hw => ⟨_, ⟨true, _, rfl, rfl, fun _ => ⟨_, _, _, _, _, hLL2, rfl⟩, fun q => by cases q⟩, ?_⟩); rw [j6]; exact hw.hs (HS.cons rfl (HS.cons rfl (HS.cons rfl (HS.cons rfl (HS.chunk (HS.chunk (HS.chunk (HS.chunk HS.last)))))))))
                    | (refine GE_leave none rfl (fun w hw => ⟨_, ⟨true, _, rfl, rfl, fun _ => ⟨_, _, _, _, _, hLL3, rfl⟩, fun q => by cases q⟩, ?_⟩); rw [j5]; exact hw.hs (HS.cons rfl (HS.cons rfl (HS.cons rfl (HS.cons rfl (HS.chunk (HS.chunk (HS.chunk HS.last))))))))
              · exact ⟨Nat.zero_le _, rfl⟩
            · rcases hJ with ⟨l, Al, cl, Il, Ih, hLL, hJ'⟩ | hF
              rotate_left
              · exact hF.elim
              subst hJ'; subst hr0
              refine ⟨_, (b18, blk [.slice Al l.length cl] 87) :: (g, blk (roomC A A3 A4 p.length d.length c c3 c4) 127) :: (I3 ++ (I4 ++ (Il ++ Ih))), ?_, hw'.hs (HS.cons rfl (HS.cons rfl (HS.cons rfl (HS.cons rfl (HS.chunk (HS.chunk (HS.chunk HS.last))))))), ?_⟩
              · intro h; cases h
              refine GE_D (D' := dq [q]) ?_ rfl
              refine GE_inBlock ?_;refine GE_seq ?_;refine Zs [11, 18] rfl ?_;refine GE_drawn (.st 0 (.st 1 (.st 2 (.st 3 (.st 4 .nil))))) [] (by decide +kernel) ?_;refine Zv rfl ?_;refine Zl rfl ag_87 rfl ?_;refine Zr 3 rfl ?_;refine GT_nil ?_;refine GE_retq Tryz.func25 ⟨_, _, _, rfl, rfl, rfl, rfl⟩ (fun w hw => ?_)
              exact ⟨some ⟨g, A3, c3, I3, A4, c4, I4, l, Al, cl, Il, Ih⟩, ⟨hE0, hO3, hO4, hLL⟩, rfl, hw.hs (HS.cons rfl (HS.chunk (HS.chunk (HS.chunk HS.last))))⟩
        · exact ⟨Nat.zero_le _, ⟨by simp, fun q hq => absurd hq (Nat.not_lt_zero _)⟩, Own.made (x := (0 : Int)) rfl (Nat.le_trans (show h.length ≤ 200 by omega) (by decide))⟩
  · have hE : hearE p d side h = beginE p d side := if_neg hb
    refine Ret_of (vs := [_, _, _, _]) hm none' Tryz.func25 rfl Tryz.ntmps25 rfl ?_
    dsimp only [slotsOf]
    refine Zp 4 [0] rfl ?_;refine Zx [_] rfl rfl fun b7 => ?_;refine Zr 3 rfl ?_;refine GT_nil ?_;refine GE_scope ?_;refine Zp 9 [3] rfl ?_;refine Zr 3 rfl ?_;refine Zc rfl rn_48 (fun w hw => C_newRoom_err (hp.sh hw) hwf (hd.sh hw) hdf hb) GR_nil ?_;refine Zr 5 rfl ?_;refine Zz ?_;refine Zq [7, 8, 9, 10, 11, 12] 2 [] rfl rfl ?_;refine Zv rfl ?_;refine GT_S rfl (V_neq rfl rfl rfl) ?_;refine GT_nil ?_;refine GE_condNot rfl (fun h0 => ?_) (fun h0 => ?_)
    · refine Zq [12] 4 [] rfl rfl ?_;refine Zr 4 rfl ?_;refine GT_nil ?_;refine GE_ret Tryz.func25 ⟨_, _, _, rfl, rfl, rfl, rfl⟩ (fun w hw => ?_)
      exact ⟨none, by rw [hE]; exact hb, by rw [hE]; rfl, hw.nil⟩
    · exact absurd h0 hb
end
end Go.Proofs.YtncleikbggjmjaaGreatDoor.Lis
/- The causes left, how many a disc has, and the next disc: walked. -/
namespace Go.Proofs.YtncleikbggjmjaaGreatDoor.Lis
open Go.Sx Go.Proofs
section
variable {p : List Plt} {d : List Dsc} {h : List Hrg} {A A2 A5 : Option Addr} {c c2 c5 : Nat} {side : Int} {w : World}
theorem C_left_ok (hp : RdL w 7 ePlt A p) (hwf : ∀ x ∈ p, Plt.wf x) (hd : RdL w 7 eDsc A2 d) (hdf : ∀ x ∈ d, Dsc.wf x) (hh : RdL w 2 eHrg A5 h) (he : hearE p d side h = 0) :
    Con Tryz.prog 25 [.slice A p.length c, .slice A2 d.length c2, I side, .slice A5 h.length c5] w (LeftOk p d side h) (fun y => .tuple #[ptr y.g 0, .slice y.Al y.l.length y.cl, I 0]) (fun y => y.items A p.length d.length c) :=
  Ret.mono (C_left hp hwf hd hdf hh) fun v w' ⟨o, ho, hv, hw⟩ => by
    cases o with
    | none => exact absurd he ho
    | some y => exact ⟨y, ho.2, hv, hw⟩
theorem C_left_err (hp : RdL w 7 ePlt A p) (hwf : ∀ x ∈ p, Plt.wf x) (hd : RdL w 7 eDsc A2 d) (hdf : ∀ x ∈ d, Dsc.wf x) (hh : RdL w 2 eHrg A5 h) (he : hearE p d side h ≠ 0) :
    Con0 Tryz.prog 25 [.slice A p.length c, .slice A2 d.length c2, I side, .slice A5 h.length c5] w (.tuple #[.pointer none, .slice none 0 0, I (hearE p d side h)]) :=
  Ret.mono (C_left hp hwf hd hdf hh) fun v w' ⟨o, ho, hv, hw⟩ => by
    cases o with
    | none => exact ⟨hv, hw⟩
    | some y => exact absurd ho.1 he
theorem leftS_le {p : List Plt} {d : List Dsc} {side : Int} {h : List Hrg} (hR : Room p d side) : (leftS p d side h).length ≤ 70000 := Nat.le_trans (List.length_filter_le _ _) (causS_le hR.dl hR.pl)
/-! how many of the causes a disc has -/
theorem mny_take {xs : List Sus} {k i : Nat} (hk : k < xs.length) : mny (xs.take (k + 1)) i = mny (xs.take k) i + if (xs.getD k default).has.getD i default then 1 else 0 := by
  unfold mny
  rw [List.take_succ_eq_append_getElem hk, List.countP_append, List.countP_singleton]
  have e : xs[k] = xs.getD k default := by simp [List.getD, hk]
  rw [e]
theorem mny_take_le {xs : List Sus} {k i : Nat} : mny (xs.take k) i ≤ k := Nat.le_trans (mny_le _ _) (by rw [List.length_take]; omega)
def manyL (d : List Dsc) (xs : List Sus) : List Int := (List.range d.length).map fun i => (mny xs i : Int)
theorem manyL_len (d : List Dsc) (xs : List Sus) : (manyL d xs).length = d.length := by simp [manyL]
theorem manyL_get {xs : List Sus} {i : Nat} (hi : i < d.length) : (manyL d xs).getD i default = mny xs i := by simp [manyL, List.getD, hi]
set_option maxRecDepth 10000 in
theorem C_many {l : List SusA} {Al A3 A4 : Option Addr} {np c3 c4 cl g : Nat} (hb : BlkAt w g (roomC A A3 A4 np d.length c c3 c4) 127) (hl : RdL w 3 eSus Al l) (hhas : ∀ y ∈ l, RdL w 1 eB y.A y.x.has) (hn : ∀ y ∈ l, y.n = d.length ∧ y.x.has.length = d.length) (hdl : d.length ≤ 200) (hll : l.length ≤ 70000) :
    Con Tryz.prog 51 [ptr g 0, .slice Al l.length cl] w (fun y : Nat × Items => Own 1 3 eI (manyL d (l.map SusA.x)) (.slice (some ⟨y.1, 0, none⟩) d.length d.length) y.2) (fun y => .slice (some ⟨y.1, 0, none⟩) d.length d.length) (fun y => y.2) := by
  have hxl : (l.map SusA.x).length = l.length := List.length_map ..
  have hxg : ∀ k, k < l.length → (l.map SusA.x).getD k default = (l.getD k default).x := fun k hk => by simp [List.getD, hk]
  refine Ret_of (vs := [_, _]) hm none' Tryz.func51 rfl Tryz.ntmps51 rfl ?_
  dsimp only [slotsOf]
  refine Zp 1 [] rfl ?_;refine Zv rfl ?_;refine GT_nil ?_;refine Zp 7 [5] rfl ?_;refine Zr 2 rfl ?_;refine Zf rfl fo_127_1 ?_;refine ZL rfl ag_43 (CellAt.old (hb.cell rfl) (noM _)) ?_;refine Zn rfl Tryz.underlying43 ?_;refine GT_makeSlice rfl rfl rfl rfl rfl rfl rfl Tryz.underlying38 zc_3 sz_3 by_3 ⟨rfl, rfl, rfl⟩ ⟨by omega, by omega⟩ (fun _ => GR_nil) (fun b15 => ?_);refine Zv rfl ?_;refine Zz ?_;refine Zq [1, 5] 3 [] rfl rfl ?_;refine Zv rfl ?_;refine Zn rfl Tryz.underlying87 ?_;refine Zv rfl ?_;refine GT_nil ?_;refine GE_block ?_;refine GE_to (GE_loop (ι := Nat × List Int × Items) (fun x => l.length - x.1) (fun x => [(5, .slice (some ⟨b15, 0, none⟩) d.length d.length), (16, .slice Al l.length cl), (17, I l.length), (18, I x.1)]) (fun x => x.2.2) (fun x => x.1 ≤ l.length ∧ x.2.1.length = d.length ∧ (∀ i, i < d.length → x.2.1.getD i default = mny ((l.map SusA.x).take x.1) i) ∧ Own 1 3 eI x.2.1 (.slice (some ⟨b15, 0, none⟩) d.length d.length) x.2.2) ?_ (0, List.replicate d.length 0, [(b15, blk ((List.replicate d.length [I 0]).flatten) 3)]) ?_) ⟨rfl, rfl, rfl, rfl, trivial⟩ HS.last
  · rintro ⟨k, o, I1⟩ ⟨hk, hol, hoi, hO⟩ ih; dsimp only at hk hol hoi hO ih ⊢
    refine Zp 1 [] rfl ?_;refine GT_S rfl (V_lss rfl rfl rfl) ?_;refine Zz ?_;refine GE_cond rfl (fun h1 => ?_) (fun h1 => ?_)
    · have hkl : k < l.length := (by omega); have hym : l.getD k default ∈ l := (by simp [List.getD, hkl]); obtain ⟨hn1, hn2⟩ := hn _ hym; have hyr := hhas _ hym
      refine GE_skip ?_;refine GE_seq ?_;refine GE_block ?_;refine Zp 4 [2, 3] rfl ?_;refine GT_S rfl (V_index rfl rfl rfl Tryz.underlying87 sz_95 (k := k) rfl hkl (hl.isSome hkl)) ?_;refine GT_S rfl (V_loadN (vs := [_, _, _]) rfl rfl ag_95 sz_95 rfl (hl.ats noM hkl)) ?_;refine Zb rfl zc_95 fun b7 => ?_;refine ZS [_, _, _] [_, _, _] rfl rfl sz_95 rfl rfl rfl ?_;refine GT_nil ?_;refine Zp 4 [] rfl ?_;refine Zg rfl fo_95_1 rfl ag_93 rfl ?_;refine Zn rfl Tryz.underlying93 ?_;refine Zv rfl ?_;refine GT_nil ?_;refine GE_block ?_;refine GE_to (GE_loop (ι := Nat × List Int × Items) (fun x => d.length - x.1) (fun x => [(5, .slice (some ⟨b15, 0, none⟩) d.length d.length), (16, .slice Al l.length cl), (17, I l.length), (18, I k), (23, .slice (l.getD k default).A (l.getD k default).n (l.getD k default).c), (24, I (l.getD k default).n), (25, I x.1)]) (fun x => x.2.2) (fun x => x.1 ≤ d.length ∧ x.2.1.length = d.length ∧ (∀ i, i < x.1 → x.2.1.getD i default = mny ((l.map SusA.x).take (k + 1)) i) ∧ (∀ i, x.1 ≤ i → i < d.length → x.2.1.getD i default = mny ((l.map SusA.x).take k) i) ∧ Own 1 3 eI x.2.1 (.slice (some ⟨b15, 0, none⟩) d.length d.length) x.2.2) ?_ (0, o, I1) ?_) ⟨rfl, rfl, rfl, rfl, rfl, rfl, rfl, trivial⟩ HS.last
      · rintro ⟨j, o2, I2⟩ ⟨hj, ho2l, hlo, hhi, hO2⟩ ih2; dsimp only at hj ho2l hlo hhi hO2 ih2 ⊢
        refine Zp 1 [] rfl ?_;refine GT_S rfl (V_lss rfl rfl rfl) ?_;refine Zz ?_;refine GE_cond rfl (fun h2 => ?_) (fun h2 => ?_)
        · have hjl : j < d.length := (by omega); have hmt := mny_take (xs := l.map SusA.x) (k := k) (i := j) (by omega); rw [hxg k hkl] at hmt; have hmk := mny_take_le (xs := l.map SusA.x) (k := k) (i := j); have hov := hhi j (Nat.le_refl _) hjl
          refine GE_skip ?_;refine GE_seq ?_;refine GE_block ?_;refine Zp 5 [] rfl ?_;refine Zv rfl ?_;refine GT_S rfl (V_index rfl rfl rfl Tryz.underlying93 sz_4 (k := j) rfl (by omega) (hyr.isSome (k := j) (by omega))) ?_;refine ZL rfl ag_4 (hyr.at0 noM (by omega) rfl) ?_;refine Zr 2 rfl ?_;refine GT_nil ?_;refine Zq [5, 8, 9, 16, 17, 18, 23, 24, 25] 1 [] rfl rfl ?_;refine Zv rfl ?_;refine GT_nil ?_;refine GE_condB rfl (fun hej => ?_) (fun hej => ?_)
          · refine ZP 7 [6] rfl ?_;refine Zr 2 rfl ?_;refine GT_S rfl (V_index rfl rfl rfl Tryz.underlying38 sz_3 (k := j) rfl hjl rfl) ?_;refine ZL rfl ag_3 (CellAt.own0 hO2 eI_len (by omega) (by rw [hov]; rfl)) ?_;refine Za rfl (by omega) ?_;refine GT_S rfl (V_index rfl rfl rfl Tryz.underlying38 sz_3 (k := j) rfl hjl rfl) ?_;refine GT_storeOwn (enc := eI) (q := j) (xx := (mny ((l.map SusA.x).take k) j : Int) + 1) rfl rfl rfl rfl rfl rfl rfl sz_3 hO2 eI_len eI_one (by omega) (by decide) (fun _ _ => GR_nil) (fun I3 hO3 => ?_);refine GT_nil ?_;refine GE_inBlock ?_;refine Zs [5, 16, 17, 18, 23, 24, 25] rfl ?_;refine ZP 2 [1] rfl ?_;refine Za rfl (by omega) ?_;refine Zw rfl ?_;refine GT_nil ?_
            first
              | exact GE_to (ih2 (j + 1, _, I3) ⟨by dsimp only; omega, by simpa using ho2l, fun i hi => by dsimp only; rw [getD_set (by omega)]; rcases Nat.lt_or_ge i j with r | r; rw [if_neg (by omega)]; exact hlo i r; obtain rfl : i = j := (by omega); rw [if_pos rfl, hmt, hej, if_pos rfl]; push_cast; rfl, fun i hi hi2 => by dsimp only at hi ⊢; rw [getD_set (by omega), if_neg (by omega)]; exact hhi i (by omega) hi2, hO3⟩ (by dsimp only; omega)) ⟨rfl, rfl, rfl, rfl, rfl, rfl, rfl, trivial⟩ HS.last
              | exact GE_to (ih2 (j + 1, o2, I2) ⟨by dsimp only; omega, ho2l, fun i hi => by dsimp only at hi; rcases Nat.lt_or_ge i j with r | r; exact hlo i r; obtain rfl : i = j := (by omega); rw [hmt, hej, if_neg (by decide)]; exact hhi i (Nat.le_refl _) hjl, fun i hi hi2 => hhi i (by dsimp only at hi; omega) hi2, hO2⟩ (by dsimp only; omega)) ⟨rfl, rfl, rfl, rfl, rfl, rfl, rfl, trivial⟩ HS.last
          · refine GE_skip ?_;refine GE_inBlock ?_;refine ZP 2 [1] rfl ?_;refine Za rfl (by omega) ?_;refine Zw rfl ?_;refine GT_nil ?_
            first
              | exact GE_to (ih2 (j + 1, _, I3) ⟨by dsimp only; omega, by simpa using ho2l, fun i hi => by dsimp only; rw [getD_set (by omega)]; rcases Nat.lt_or_ge i j with r | r; rw [if_neg (by omega)]; exact hlo i r; obtain rfl : i = j := (by omega); rw [if_pos rfl, hmt, hej, if_pos rfl]; push_cast; rfl, fun i hi hi2 => by dsimp only at hi ⊢; rw [getD_set (by omega), if_neg (by omega)]; exact hhi i (by omega) hi2, hO3⟩ (by dsimp only; omega)) ⟨rfl, rfl, rfl, rfl, rfl, rfl, rfl, trivial⟩ HS.last
              | exact GE_to (ih2 (j + 1, o2, I2) ⟨by dsimp only; omega, ho2l, fun i hi => by dsimp only at hi; rcases Nat.lt_or_ge i j with r | r; exact hlo i r; obtain rfl : i = j := (by omega); rw [hmt, hej, if_neg (by decide)]; exact hhi i (Nat.le_refl _) hjl, fun i hi hi2 => hhi i (by dsimp only at hi; omega) hi2, hO2⟩ (by dsimp only; omega)) ⟨rfl, rfl, rfl, rfl, rfl, rfl, rfl, trivial⟩ HS.last
        · obtain rfl : j = d.length := (by omega)
          refine GE_exit rfl ?_;refine GE_inBlock ?_;refine Zs [5, 16, 17, 18] rfl ?_;refine ZP 2 [1] rfl ?_;refine Za rfl (by omega) ?_;refine Zw rfl ?_;refine GT_nil ?_
          exact GE_to (ih (k + 1, o2, I2) ⟨by dsimp only; omega, ho2l, fun i hi => hlo i (by omega), hO2⟩ (by dsimp only; omega)) ⟨rfl, rfl, rfl, rfl, trivial⟩ HS.last
      · exact ⟨Nat.zero_le _, hol, fun i hi => absurd hi (Nat.not_lt_zero _), fun i _ hi => hoi i hi, hO⟩
    · obtain rfl : k = l.length := (by omega); rw [List.take_of_length_le (by omega)] at hoi; obtain rfl : o = manyL d (l.map SusA.x) := ext_getD (by rw [hol, manyL_len]) (fun i hi => by rw [hoi i (by omega), manyL_get (by omega)])
      refine GE_exit rfl ?_;refine Zq [5] 2 [] rfl rfl ?_;refine Zr 2 rfl ?_;refine GT_nil ?_;refine GE_ret Tryz.func51 rfl (fun w hw => ⟨(b15, I1), hO, rfl, hw⟩)
      skip
  · exact ⟨Nat.zero_le _, by simp, fun i hi => by simp [mny, List.getD, hi], Own.made (x := (0 : Int)) rfl (Nat.le_trans hdl (by decide))⟩
end
end Go.Proofs.YtncleikbggjmjaaGreatDoor.Lis
/- The next disc, walked. -/
namespace Go.Proofs.YtncleikbggjmjaaGreatDoor.Lis
open Go.Sx Go.Proofs
section
variable {p : List Plt} {d : List Dsc} {h : List Hrg} {A A2 A5 : Option Addr} {c c2 c5 : Nat} {side : Int} {w : World}
end
end Go.Proofs.YtncleikbggjmjaaGreatDoor.Lis
