/- Texts of this proof, one behind the other: Wbi, Wc1, Wc2, LiT, LiU, Wc3, LiA, Li1. -/
import Derived.Test.YtncleikbggjmjaaGreatDoorMt0
import Derived.Test.YtncleikbggjmjaaGreatDoorMt22
import Derived.Test.YtncleikbggjmjaaGreatDoorMt18
import Derived.Test.YtncleikbggjmjaaGreatDoorMt6
import Derived.Test.YtncleikbggjmjaaGreatDoorMt10
import Derived.Test.YtncleikbggjmjaaGreatDoorMt15
/- Acts that are done in a shop, and the flaws that they make, walked. -/
namespace Go.Proofs.YtncleikbggjmjaaGreatDoor.Plg
open Go.Sx Go.Proofs Go.RowKit
open Side (eN eN_len eN_one getD_memT sh_trans)
open Lis (Plt ePlt ePlt_len PlOk Dsc eDsc eDsc_len)
abbrev eSc (x : Int × Int) : List Value := [I x.1, I x.2]
theorem eSc_len (x : Int × Int) : (eSc x).length = 2 := rfl
theorem eSc_one (x : Int × Int) : ∀ u ∈ eSc x, u.oneCell' = true := fun u h => by
  simp only [List.mem_cons, List.not_mem_nil, or_false] at h
  rcases h with rfl | rfl <;> rfl
def scar (a : Nat → Int) (e : Int) (x' : St) (sc : List (Int × Int)) : List (Int × Int) :=
  if e ≠ 0 then sc else if a 0 = 4 then sc ++ [(a 5, (x'.l.length : Int))] else if a 0 = 5 then sc.set (a 12).toNat (-1, (sc.getD (a 12).toNat default).2) else sc
inductive Run : List (Nat → Int) → St → List (Int × Int) → Prop
  | nil : Run [] ⟨[], 0⟩ []
  | snoc {l x sc} (a : Nat → Int) {n e : Int} {x'} (h : Run l x sc) (s : Step a x n e x') : Run (l ++ [a]) x' (scar a e x' sc)
theorem step_len {a : Nat → Int} {x x' : St} {n e : Int} {sc : List (Int × Int)} (s : Step a x n e x') (h : sc.length = x.nf) : (scar a e x' sc).length = x'.nf := by
  unfold scar
  cases s with
  | err n he => rw [if_pos he]; exact h
  | lacquer h0 hl => rw [if_neg (by decide), if_neg (by omega), if_neg (by omega)]; exact h
  | bath h0 n => rw [if_neg (by decide), if_neg (by omega), if_neg (by omega)]; exact h
  | grow h0 h1 h5 hk hl thick => rw [if_neg (by decide), if_neg (by omega), if_neg (by omega)]; exact h
  | flaw h0 h1 h5 hn => rw [if_neg (by decide), if_pos h0, List.length_append, List.length_singleton, h]
  | mend h0 h1 h5 h12 hf => rw [if_neg (by decide), if_neg (by omega), if_pos h0, List.length_set]; exact h
  | retire h0 h1 h5 => rw [if_neg (by decide), if_neg (by omega), if_neg (by omega)]; exact h
theorem step_flaw {a : Nat → Int} {x x' : St} {n e : Int} (s : Step a x n e x') (he : e = 0) (h0 : a 0 = 4) : n = x.nf := by
  cases s with
  | err n h => exact absurd he h
  | flaw _ _ _ _ => rfl
  | lacquer h | bath h | grow h | mend h | retire h => omega
theorem step_mend {a : Nat → Int} {x x' : St} {n e : Int} (s : Step a x n e x') (he : e = 0) (h0 : a 0 = 5) : 0 ≤ a 12 ∧ a 12 < x.nf := by
  cases s with
  | err n h => exact absurd he h
  | mend _ _ _ h _ => exact h
  | lacquer h | bath h | grow h | flaw h | retire h => omega
theorem run_len {l : List (Nat → Int)} {x : St} {sc : List (Int × Int)} (h : Run l x sc) : sc.length = x.nf := by
  induction h with
  | nil => rfl
  | snoc a _ s ih => exact step_len s ih
section
variable {w w0 : World} {S : Shp} {G : Items} {a : Nat → Int} {A : Option Addr} {b c : Nat} {R : Nat → Int} {l : List (Nat → Int)}
theorem C_DoB (hb : S.b = b) (m0 : SH w0 none' (S.W G) w) (hS : S.Ok) (hal : S.al.length < 1000) :
    Ret Tryz.prog 22 [ptr b 0, aV a].toArray w fun v w' => ∃ y : Shp × Int × Int, Done a S y ∧ v = .tuple #[I y.2.1, I y.2.2] ∧ SH w0 none' (y.1.W G) w' := by
  subst hb; exact C_Do m0 hS hal
theorem C_PlatesB (hb : S.b = b) (h : ShAt w S) (hS : S.Ok) : Con Tryz.prog 7 [ptr b 0] w (fun y : Option Addr × Nat × Items => Own 7 78 ePlt S.ps (.slice y.1 S.qs.length y.2.1) y.2.2) (fun y => .slice y.1 S.qs.length y.2.1) (fun y => y.2.2) := by
  subst hb; exact C_Plates h hS
abbrev Shp.new (b : Nat) (R : Nat → Int) : Shp := ⟨b, R, (none, 0, []), (none, 0, []), (none, 0, []), (none, 0, []), [], [], [], []⟩
theorem Shp.Ok.new {b : Nat} (h : RcOk R) : (Shp.new b R).Ok := ⟨h.m, h.st, Own.nil, Own.nil, Own.nil, Own.nil, Nat.zero_le _, Nat.zero_le _, Nat.zero_le _, Nat.zero_le _, fun q hq => by cases hq⟩
set_option maxRecDepth 20000 in
set_option maxHeartbeats 1000000 in
theorem C_scars (hR : RcOk R) (h : RdL w 13 eAct A l) (hl : l.length ≤ 40) :
    Con Tryz.prog 6 [rV R, .slice A l.length c] w (fun y : Shp × List (Int × Int) × (Option Addr × Nat × Items) => y.1.Ok ∧ Run l y.1.st y.2.1 ∧ Own 2 42 eSc y.2.1 (.slice y.2.2.1 y.2.1.length y.2.2.2.1) y.2.2.2.2)
      (fun y => .tuple #[ptr y.1.b 0, .slice y.2.2.1 y.2.1.length y.2.2.2.1, .bool true]) (fun y => y.1.W y.2.2.2.2) := by
  refine Ret_of (vs := [_, _]) hm none' Tryz.func6 rfl Tryz.ntmps6 rfl ?_
  dsimp only [slotsOf]
  refine Zp 4 [0] rfl ?_;refine Zx [_, _, _, _, _, _, _, _, _, _, _, _, _] rfl rfl fun b2 => ?_;refine Zr 3 rfl ?_;refine GT_nil ?_;refine Zq [1, 2] 7 [1] rfl rfl ?_;refine ZN [_, _, _, _, _, _, _, _, _, _, _, _, _] rfl ag_24 sz_24 rfl rfl ?_;refine ZC rfl rn_21 (fun w hw => C_New hR) (fun _ _ => GR_nil) (fun b _ => ?_);refine Zr 5 rfl ?_;refine Zz ?_;refine Zq [1, 7, 8] 6 [] rfl rfl ?_;refine Zv rfl ?_;refine GT_S rfl (V_isF (V_neq rfl rfl rfl) (fun q => q rfl)) ?_;refine Zr 2 rfl ?_;refine GT_S rfl (V_eqlNilPtr rfl rfl rfl Tryz.underlying30) ?_;refine Zv rfl ?_;refine GT_nil ?_;refine GE_cond_f rfl ?_;refine GE_skip ?_;refine Zq [1, 7] 1 [] rfl rfl ?_;refine Zv rfl ?_;refine Zz ?_;refine Zp 1 [] rfl ?_;refine Zv rfl ?_;refine GT_nil ?_;refine GE_block ?_;refine GE_to (GE_loop (ι := Nat × Shp × List (Int × Int) × (Option Addr × Nat × Items)) (fun z => l.length - z.1) (fun z => [(1, .slice A l.length c), (7, ptr b 0), (9, .slice z.2.2.2.1 z.2.2.1.length z.2.2.2.2.1), (10, I z.1)]) (fun z => z.2.1.W z.2.2.2.2.2) (fun z => z.1 ≤ l.length ∧ z.2.1.b = b ∧ z.2.1.Ok ∧ z.2.1.al.length ≤ z.1 ∧ Run (l.take z.1) z.2.1.st z.2.2.1 ∧ Own 2 42 eSc z.2.2.1 (.slice z.2.2.2.1 z.2.2.1.length z.2.2.2.2.1) z.2.2.2.2.2) ?_ (0, Shp.new b R, [], (none, 0, [])) ?_) ⟨rfl, rfl, rfl, rfl, trivial⟩ (HS.cons rfl HS.nil)
  · rintro ⟨k, S, sc, u⟩ ⟨hk, hb, hS, hal, hrun, hU⟩ ih; dsimp only at hk hb hS hal hrun hU ih ⊢
    refine GE_seq ?_;refine Zp 4 [] rfl ?_;refine Zr 2 rfl ?_;refine Zn rfl Tryz.underlying25 ?_;refine GT_S rfl (V_lss rfl rfl rfl) ?_;refine GT_nil ?_;refine GE_cond rfl (fun q1 => ?_) (fun q1 => ?_)
    · have hkl : k < l.length := (by omega)
      refine GE_skip ?_;refine GE_seq ?_;refine GE_block ?_;refine Zq [1, 7, 9, 10] 11 [5] rfl rfl ?_;refine Zr 3 rfl ?_;refine GT_S rfl (V_index rfl rfl rfl Tryz.underlying25 sz_70 (k := k) rfl hkl (h.isSome hkl)) ?_;refine GT_S rfl (V_loadN (vs := [_, _, _, _, _, _, _, _, _, _, _, _, _]) rfl rfl ag_70 sz_70 rfl (show CellsAt _ _ _ (eAct (l.getD k default)) from h.ats noM hkl)) ?_;refine GT_callX rfl rfl rfl rfl rfl rfl rfl rfl rn_22 (fun w m9 => C_DoB (S := S) (a := l.getD k default) (G := u.2.2) hb m9 hS (by omega)) (fun _ _ => GR_nil) (fun y hy => ?_);obtain ⟨S', nn, ee⟩ := y;obtain ⟨hok', hb', _, hal', hst⟩ := hy;dsimp only at hok' hb' hal' hst ⊢;have hrun' := Run.snoc _ hrun hst;rw [← takeS hkl] at hrun';rw [hb] at hb'
      refine Zr 5 rfl ?_;refine Zz ?_;refine Zq [1, 7, 9, 10, 11, 12] 2 [] rfl rfl ?_;refine Zv rfl ?_;refine GT_S rfl (V_neq rfl rfl rfl) ?_;refine GT_nil ?_;refine GE_condNot rfl (fun q2 => ?_) (fun q2 => ?_)
      · have hsc : scar (l.getD k default) ee S'.st sc = sc := if_pos q2; rw [hsc] at hrun'
        refine GE_exit rfl ?_;refine Zs [1, 7, 9, 10] rfl ?_;refine ZP 3 [2] rfl ?_;refine Zv rfl ?_;refine Za rfl (by omega) ?_;refine Zw rfl ?_;refine GT_nil ?_
        first
          | exact GE_to (ih (k + 1, S', sc, u) ⟨by dsimp only; omega, hb', hok', by dsimp only; omega, hrun', hU⟩ (by dsimp only; omega)) ⟨rfl, rfl, rfl, rfl, trivial⟩ HS.all
          | exact GE_to (ih (k + 1, S', sc ++ [((l.getD k default) 5, (S'.qs.length : Int))], (A3, c3, I3)) ⟨by dsimp only; omega, hb', hok', by dsimp only; omega, hrun', hO3⟩ (by dsimp only; omega)) ⟨rfl, rfl, rfl, rfl, trivial⟩ (HS.cons rfl (HS.chunk (HS.chunk (HS.chunk (HS.chunk (HS.chunk HS.last))))))
          | exact GE_to (ih (k + 1, S', sc.set ((l.getD k default) 12).toNat (-1, (sc.getD ((l.getD k default) 12).toNat default).2), (u.1, u.2.1, I5)) ⟨by dsimp only; omega, hb', hok', by dsimp only; omega, hrun', (by dsimp only; rw [List.length_set]; exact hO5)⟩ (by dsimp only; omega)) ⟨rfl, rfl, lookS rfl (by dsimp only; rw [List.length_set]), rfl, trivial⟩ (HS.cons rfl (HS.chunk (HS.chunk (HS.chunk (HS.chunk (HS.chunk HS.last))))))
      · have he0 : ee = 0 := (by omega); have hscl : sc.length = S.fl.length := run_len hrun; have hsn3 := hS.n3
        refine GE_skip ?_;refine Zp 5 [] rfl ?_;refine Zr 2 rfl ?_;refine GT_S rfl (V_index rfl rfl rfl Tryz.underlying25 sz_70 (k := k) rfl hkl (h.isSome hkl)) ?_;refine GT_S rfl (V_fieldA rfl rfl fo_70_0) ?_;refine ZL rfl ag_3 (h.at0 noM hkl rfl) ?_;refine GT_nil ?_;refine GE_block ?_;refine Zq [1, 7, 9, 10, 11, 45] 2 [] rfl rfl ?_;refine GT_S rfl (V_eql rfl rfl rfl) ?_;refine Zv rfl ?_;refine GT_nil ?_;refine GE_cond rfl (fun q3 => ?_) (fun q3 => ?_)
        · have hnn := step_flaw hst he0 q3; have hnn2 : nn = (sc.length : Int) := (by rw [hscl]; exact hnn); have hsc : scar (l.getD k default) ee S'.st sc = sc ++ [((l.getD k default) 5, (S'.qs.length : Int))] := (by unfold scar; rw [if_neg (by omega), if_pos q3, show S'.st.l.length = S'.qs.length from List.length_map ..]); rw [hsc] at hrun'
          refine GE_seq ?_;refine Zp 4 [] rfl ?_;refine Zr 2 rfl ?_;refine Zn rfl Tryz.underlying31 ?_;refine GT_S rfl (V_isF (V_neq rfl rfl rfl) (fun q => q hnn2)) ?_;refine GT_nil ?_;refine GE_cond_f rfl ?_;refine GE_skip ?_;refine Zs [1, 7, 9, 10] rfl ?_;refine GE_drawn (.st 0 (.st 1 (.st 2 (.st 3 (.st 4 (.st 5 (.st 6 (.ld 7 [0, 1, 2, 3, 4, 5] (.st 8 (.st 9 (.ld 10 [0] (.ld 11 [] (.ld 12 [] .nil))))))))))))) [7, 10, 11, 12] (by decide +kernel) ?_;refine Zr 3 rfl ?_;refine GT_S rfl (V_index rfl rfl rfl Tryz.underlying25 sz_70 (k := k) rfl hkl (h.isSome hkl)) ?_;refine GT_S rfl (V_fieldA rfl rfl fo_70_5) ?_;refine ZL rfl ag_3 (h.at1 noM hkl rfl) ?_;refine Zv rfl ?_;refine ZC rfl rn_7 (fun w hw => C_PlatesB hb' (ShAt.of (G := u.2.2) hw hok') hok') (fun _ _ => Rv rfl rfl (Rv rfl rfl (Rv rfl rfl (GR_S rfl rfl (V_index rfl rfl rfl Tryz.underlying25 sz_70 (k := k) rfl hkl (h.isSome hkl)) (GR_S rfl rfl (V_fieldA rfl rfl fo_70_5) (GR_S rfl rfl (V_load rfl rfl ag_3 (h.at1 noM hkl rfl)) GR_nil)))))) (fun yp hyp => ?_);refine Zn rfl Tryz.underlying34 ?_;refine GT_S rfl (V_build (vs := [_, _]) rfl rfl zc_42 pl_42 sa_42 rfl) ?_;refine GT_buildSlice (z := [_, _]) rfl rfl rfl rfl rfl Tryz.underlying31 zc_42 sz_42 (by decide) rfl rfl (fun _ => Rv rfl rfl GR_nil) (fun b62 => ?_);refine GT_append (enc := eSc) (l := sc) (m := [((l.getD k default) 5, (S'.qs.length : Int))]) rfl rfl rfl rfl rfl rfl rfl hU (fun w m => RdL.own' m eSc_len) Tryz.underlying31 zc_42 sz_42 ⟨rfl, by decide⟩ by_42 ⟨by simp only [List.length_singleton]; omega, by simp only [List.length_singleton]; omega⟩ eSc_len eSc_one (fun _ _ _ _ => GR_nil) (fun A3 c3 I3 hO3 => ?_);refine Zw rfl ?_;refine GT_nil ?_;refine GE_inBlock ?_;refine GE_inBlock ?_;refine Zs [1, 7, 9, 10] rfl ?_;refine ZP 3 [2] rfl ?_;refine Zv rfl ?_;refine Za rfl (by omega) ?_;refine Zw rfl ?_;refine GT_nil ?_
          first
            | exact GE_to (ih (k + 1, S', sc, u) ⟨by dsimp only; omega, hb', hok', by dsimp only; omega, hrun', hU⟩ (by dsimp only; omega)) ⟨rfl, rfl, rfl, rfl, trivial⟩ HS.all
            | exact GE_to (ih (k + 1, S', sc ++ [((l.getD k default) 5, (S'.qs.length : Int))], (A3, c3, I3)) ⟨by dsimp only; omega, hb', hok', by dsimp only; omega, hrun', hO3⟩ (by dsimp only; omega)) ⟨rfl, rfl, rfl, rfl, trivial⟩ (HS.cons rfl (HS.chunk (HS.chunk (HS.chunk (HS.chunk (HS.chunk HS.last))))))
            | exact GE_to (ih (k + 1, S', sc.set ((l.getD k default) 12).toNat (-1, (sc.getD ((l.getD k default) 12).toNat default).2), (u.1, u.2.1, I5)) ⟨by dsimp only; omega, hb', hok', by dsimp only; omega, hrun', (by dsimp only; rw [List.length_set]; exact hO5)⟩ (by dsimp only; omega)) ⟨rfl, rfl, lookS rfl (by dsimp only; rw [List.length_set]), rfl, trivial⟩ (HS.cons rfl (HS.chunk (HS.chunk (HS.chunk (HS.chunk (HS.chunk HS.last))))))
        · refine Zp 2 [] rfl ?_;refine GT_S rfl (V_eql rfl rfl rfl) ?_;refine Zv rfl ?_;refine GT_nil ?_;refine GE_cond rfl (fun q4 => ?_) (fun q4 => ?_)
          · have hm12 : 0 ≤ (l.getD k default) 12 ∧ (l.getD k default) 12 < (S.fl.length : Int) := step_mend hst he0 q4; have hml : ((l.getD k default) 12).toNat < sc.length := (by omega); have hsc : scar (l.getD k default) ee S'.st sc = sc.set ((l.getD k default) 12).toNat (-1, (sc.getD ((l.getD k default) 12).toNat default).2) := (by unfold scar; rw [if_neg (by omega), if_neg q3, if_pos q4]); rw [hsc] at hrun'
            refine GE_seq ?_;refine Zq [1, 7, 9, 10] 16 [] rfl rfl ?_;refine Zr 2 rfl ?_;refine GT_S rfl (V_index rfl rfl rfl Tryz.underlying25 sz_70 (k := k) rfl hkl (h.isSome hkl)) ?_;refine GT_S rfl (V_fieldA rfl rfl fo_70_11) ?_;refine ZL rfl ag_3 (h.at1 noM hkl rfl) ?_;refine GT_S rfl (V_isF (V_lss rfl rfl rfl) (by omega)) ?_;refine Zr 3 rfl ?_;refine GT_S rfl (V_index rfl rfl rfl Tryz.underlying25 sz_70 (k := k) rfl hkl (h.isSome hkl)) ?_;refine GT_S rfl (V_fieldA rfl rfl fo_70_11) ?_;refine ZL rfl ag_3 (h.at1 noM hkl rfl) ?_;refine Zv rfl ?_;refine Zn rfl Tryz.underlying31 ?_;refine GT_S rfl (V_isF (V_geq rfl rfl rfl) (by omega)) ?_;refine Zv rfl ?_;refine GT_nil ?_;refine GE_cond_f rfl ?_;refine GE_skip ?_;refine Zs [1, 7, 9, 10, 73, 74, 75, 76, 77, 78, 79, 80] rfl ?_;refine ZP 9 [8] rfl ?_;refine Zr 3 rfl ?_;refine GT_S rfl (V_index rfl rfl rfl Tryz.underlying25 sz_70 (k := k) rfl hkl (h.isSome hkl)) ?_;refine GT_S rfl (V_fieldA rfl rfl fo_70_11) ?_;refine ZL rfl ag_3 (h.at1 noM hkl rfl) ?_;refine GT_S rfl (V_index rfl rfl rfl Tryz.underlying31 sz_42 (k := ((l.getD k default) 12).toNat) (by omega) hml (hU.isSome hml)) ?_;refine GT_S rfl (V_fieldA rfl rfl fo_42_0) ?_;refine GT_storeF (enc := eSc) (q := ((l.getD k default) 12).toNat) (j := 0) (xx := (-1, (sc.getD ((l.getD k default) 12).toNat default).2)) rfl rfl rfl rfl rfl rfl rfl sz_3 hU eSc_len rfl hml (by decide) rfl (fun _ _ => GR_nil) (fun I5 hO5 => ?_);refine GT_nil ?_;refine GE_inBlock ?_;refine GE_inBlock ?_;refine Zs [1, 7, 9, 10, 73, 74, 75, 76, 77, 78, 79, 80] rfl ?_;refine ZP 3 [2] rfl ?_;refine Zv rfl ?_;refine Za rfl (by omega) ?_;refine Zw rfl ?_;refine GT_nil ?_
            first
              | exact GE_to (ih (k + 1, S', sc, u) ⟨by dsimp only; omega, hb', hok', by dsimp only; omega, hrun', hU⟩ (by dsimp only; omega)) ⟨rfl, rfl, rfl, rfl, trivial⟩ HS.all
              | exact GE_to (ih (k + 1, S', sc ++ [((l.getD k default) 5, (S'.qs.length : Int))], (A3, c3, I3)) ⟨by dsimp only; omega, hb', hok', by dsimp only; omega, hrun', hO3⟩ (by dsimp only; omega)) ⟨rfl, rfl, rfl, rfl, trivial⟩ (HS.cons rfl (HS.chunk (HS.chunk (HS.chunk (HS.chunk (HS.chunk HS.last))))))
              | exact GE_to (ih (k + 1, S', sc.set ((l.getD k default) 12).toNat (-1, (sc.getD ((l.getD k default) 12).toNat default).2), (u.1, u.2.1, I5)) ⟨by dsimp only; omega, hb', hok', by dsimp only; omega, hrun', (by dsimp only; rw [List.length_set]; exact hO5)⟩ (by dsimp only; omega)) ⟨rfl, rfl, lookS rfl (by dsimp only; rw [List.length_set]), rfl, trivial⟩ (HS.cons rfl (HS.chunk (HS.chunk (HS.chunk (HS.chunk (HS.chunk HS.last))))))
          · have hsc : scar (l.getD k default) ee S'.st sc = sc := (by unfold scar; rw [if_neg (by omega), if_neg q3, if_neg q4]); rw [hsc] at hrun'
            refine GE_skip ?_;refine GE_inBlock ?_;refine GE_inBlock ?_;refine Zs [1, 7, 9, 10] rfl ?_;refine ZP 3 [2] rfl ?_;refine Zv rfl ?_;refine Za rfl (by omega) ?_;refine Zw rfl ?_;refine GT_nil ?_
            first
              | exact GE_to (ih (k + 1, S', sc, u) ⟨by dsimp only; omega, hb', hok', by dsimp only; omega, hrun', hU⟩ (by dsimp only; omega)) ⟨rfl, rfl, rfl, rfl, trivial⟩ HS.all
              | exact GE_to (ih (k + 1, S', sc ++ [((l.getD k default) 5, (S'.qs.length : Int))], (A3, c3, I3)) ⟨by dsimp only; omega, hb', hok', by dsimp only; omega, hrun', hO3⟩ (by dsimp only; omega)) ⟨rfl, rfl, rfl, rfl, trivial⟩ (HS.cons rfl (HS.chunk (HS.chunk (HS.chunk (HS.chunk (HS.chunk HS.last))))))
              | exact GE_to (ih (k + 1, S', sc.set ((l.getD k default) 12).toNat (-1, (sc.getD ((l.getD k default) 12).toNat default).2), (u.1, u.2.1, I5)) ⟨by dsimp only; omega, hb', hok', by dsimp only; omega, hrun', (by dsimp only; rw [List.length_set]; exact hO5)⟩ (by dsimp only; omega)) ⟨rfl, rfl, lookS rfl (by dsimp only; rw [List.length_set]), rfl, trivial⟩ (HS.cons rfl (HS.chunk (HS.chunk (HS.chunk (HS.chunk (HS.chunk HS.last))))))
    · obtain rfl : k = l.length := (by omega); rw [List.take_length] at hrun; subst hb
      refine GE_exit rfl ?_;refine Zq [7, 9] 5 [] rfl rfl ?_;refine Zr 5 rfl ?_;refine GT_nil ?_;refine GE_ret Tryz.func6 ⟨_, _, _, rfl, rfl, rfl, rfl⟩ (fun w hw => ?_)
      exact ⟨(S, sc, u), ⟨hS, hrun, hU⟩, rfl, hw.hs (C := cx Tryz.prog hm 0 0 _ none' fun _ _ => True) HS.all⟩
  · exact ⟨Nat.zero_le _, rfl, Shp.Ok.new hR, Nat.zero_le _, Run.nil, Own.nil⟩
end
end Go.Proofs.YtncleikbggjmjaaGreatDoor.Plg
/- Shops of plates in plain Lean: what a run of acts keeps. -/
namespace Go.Proofs.YtncleikbggjmjaaGreatDoor.Plg
open Go.Sx Go.Proofs Go.RowKit
open Lis (Plt PlOk plOk)
abbrev kdL (L : List (Plt × BF)) (q : Nat) : Int := (L.getD q default).1.kind
abbrev prL (L : List (Plt × BF)) (q : Nat) : Int := (L.getD q default).1.par
abbrev brL (L : List (Plt × BF)) (q : Nat) (z : Int) : Bool := ((L.getD q default).2 z).isSome
theorem getD_mid {α : Type} [Inhabited α] (l1 : List α) (y : α) (l2 : List α) (q : Nat) : (l1 ++ y :: l2).getD q default = if q = l1.length then y else (l1 ++ default :: l2).getD q default := by
  by_cases h : q = l1.length
  · subst h; simp [List.getD]
  · rw [if_neg h]
    rcases Nat.lt_or_ge q l1.length with h2 | h2
    · simp [List.getD, List.getElem?_append_left h2]
    · obtain ⟨j, rfl⟩ : ∃ j, q = l1.length + (j + 1) := ⟨q - l1.length - 1, by omega⟩
      simp [List.getD, List.getElem?_append_right]
theorem getD_put {α : Type} [Inhabited α] (l1 : List α) (y y' : α) (l2 : List α) (q : Nat) : (l1 ++ y' :: l2).getD q default = if q = l1.length then y' else (l1 ++ y :: l2).getD q default := by
  rw [getD_mid l1 y' l2 q, getD_mid l1 y l2 q]
  by_cases h : q = l1.length
  · rw [if_pos h, if_pos h]
  · rw [if_neg h, if_neg h, if_neg h]
theorem getD_app {α : Type} [Inhabited α] (l : List α) (y : α) {q : Nat} (h : q ≤ l.length) : (l ++ [y]).getD q default = if q = l.length then y else l.getD q default := by
  by_cases e : q = l.length
  · subst e; simp [List.getD]
  · rw [if_neg e]; simp [List.getD, List.getElem?_append_left (show q < l.length by omega)]
structure Inv (n : Nat) (kd pr : Nat → Int) (br : Nat → Int → Bool) (sc : List (Int × Int)) : Prop where
  ok : ∀ q, q < n → (kd q = 0 ∧ pr q = -1) ∨ (1 ≤ kd q ∧ kd q ≤ 3 ∧ 0 ≤ pr q ∧ pr q < q ∧ kd (pr q).toNat + 1 = kd q)
  fresh : ∀ q z, q < n → (z < 0 ∨ (sc.length : Int) ≤ z) → br q z = false
  flaw : ∀ f, f < sc.length → 0 ≤ (sc.getD f default).1 → (sc.getD f default).1 < n ∧ 0 ≤ (sc.getD f default).2 ∧ (sc.getD f default).2 ≤ n ∧
    ∀ q, q < n → (br q f = true ↔ (q : Int) = (sc.getD f default).1 ∨ (0 ≤ pr q ∧ if pr q = (sc.getD f default).1 then (sc.getD f default).2 ≤ q else br (pr q).toNat f = true))
section
variable {n : Nat} {kd pr kd' pr' : Nat → Int} {br br' : Nat → Int → Bool} {sc : List (Int × Int)}
theorem Inv.congr (h : Inv n kd pr br sc) (hk : ∀ q, q < n → kd' q = kd q) (hp : ∀ q, q < n → pr' q = pr q) (hb : ∀ q, q < n → ∀ z, br' q z = br q z) : Inv n kd' pr' br' sc := by
  have hpn : ∀ q, q < n → 0 ≤ pr q → (pr q).toNat < n := fun q hq h0 => by have := h.ok q hq; omega
  refine ⟨fun q hq => ?_, fun q z hq hz => by rw [hb q hq]; exact h.fresh q z hq hz, fun f hf h0 => ?_⟩
  · rw [hk q hq, hp q hq]
    rcases h.ok q hq with h1 | ⟨h1, h2, h3, h4, h5⟩
    · exact .inl h1
    · refine .inr ⟨h1, h2, h3, h4, ?_⟩
      rw [hk _ (hpn q hq h3)]; exact h5
  · obtain ⟨h1, h2, h3, h4⟩ := h.flaw f hf h0
    refine ⟨h1, h2, h3, fun q hq => ?_⟩
    rw [hb q hq, hp q hq, h4 q hq]
    by_cases h5 : 0 ≤ pr q
    · rw [hb _ (hpn q hq h5)]
    · constructor <;> (rintro (e | ⟨e, _⟩); exact .inl e; exact absurd e h5)
theorem Inv.push (h : Inv n kd pr br sc) (hk : ∀ q, q < n → kd' q = kd q) (hp : ∀ q, q < n → pr' q = pr q) (hb : ∀ q, q < n → ∀ z, br' q z = br q z)
    (hn : (kd' n = 0 ∧ pr' n = -1 ∧ ∀ z, br' n z = false) ∨ ∃ k, k < n ∧ kd k ≤ 2 ∧ kd' n = kd k + 1 ∧ pr' n = k ∧ ∀ z, br' n z = br k z) : Inv (n + 1) kd' pr' br' sc := by
  have h' := h.congr hk hp hb
  have hpn : ∀ q, q < n → 0 ≤ pr' q → (pr' q).toNat < n := fun q hq h0 => by have := h'.ok q hq; omega
  refine ⟨fun q hq => ?_, fun q z hq hz => ?_, fun f hf h0 => ?_⟩
  · rcases Nat.lt_or_ge q n with h1 | h1
    · exact h'.ok q h1
    · obtain rfl : q = n := by omega
      rcases hn with ⟨h2, h3, _⟩ | ⟨k, h2, h3, h4, h5, _⟩
      · exact .inl ⟨h2, h3⟩
      · have := h.ok k h2
        refine .inr ⟨by omega, by omega, by omega, by omega, ?_⟩
        rw [h5, Int.toNat_natCast, hk k h2, h4]
  · rcases Nat.lt_or_ge q n with h1 | h1
    · exact h'.fresh q z h1 hz
    · obtain rfl : q = n := by omega
      rcases hn with ⟨_, _, h3⟩ | ⟨k, h2, _, _, _, h6⟩
      · exact h3 z
      · rw [h6 z]; exact h.fresh k z h2 hz
  · obtain ⟨h1, h2, h3, h4⟩ := h'.flaw f hf h0
    refine ⟨by omega, h2, by omega, fun q hq => ?_⟩
    rcases Nat.lt_or_ge q n with h5 | h5
    · exact h4 q h5
    · obtain rfl : q = n := by omega
      rcases hn with ⟨_, h7, h8⟩ | ⟨k, h7, _, _, h8, h9⟩
      · rw [h8, h7]
        constructor
        · intro e; cases e
        · rintro (e | ⟨e, _⟩) <;> omega
      · rw [h9, h8, Int.toNat_natCast, ← hb k h7]
        have hkk := h4 k h7
        constructor
        · intro e
          refine .inr ⟨by omega, ?_⟩
          by_cases e2 : (k : Int) = (sc.getD f default).1
          · rw [if_pos e2]; omega
          · rw [if_neg e2]; exact e
        · rintro (e | ⟨_, e⟩)
          · omega
          · by_cases e2 : (k : Int) = (sc.getD f default).1
            · exact hkk.2 (.inl e2)
            · rw [if_neg e2] at e; exact e
theorem Inv.scar (h : Inv n kd pr br sc) {k : Nat} (hk : k < n) (hb : ∀ q, q < n → ∀ z, br' q z = if q = k ∧ z = sc.length then true else br q z) : Inv n kd pr br' (sc ++ [((k : Int), (n : Int))]) := by
  have hpn : ∀ q, q < n → 0 ≤ pr q → (pr q).toNat < n := fun q hq h0 => by have := h.ok q hq; omega
  refine ⟨h.ok, fun q z hq hz => ?_, fun f hf h0 => ?_⟩
  · rw [List.length_append, List.length_singleton] at hz
    rw [hb q hq, if_neg (by rintro ⟨_, e⟩; omega)]
    exact h.fresh q z hq (by omega)
  · rw [List.length_append, List.length_singleton] at hf
    rcases Nat.lt_or_ge f sc.length with h1 | h1
    · have e : (sc ++ [((k : Int), (n : Int))]).getD f default = sc.getD f default := by simp [List.getD, List.getElem?_append_left h1]
      rw [e] at h0 ⊢
      obtain ⟨h2, h3, h4, h5⟩ := h.flaw f h1 h0
      refine ⟨h2, h3, h4, fun q hq => ?_⟩
      have hbf : ∀ q, q < n → br' q f = br q f := fun q hq => by rw [hb q hq, if_neg (by rintro ⟨_, e⟩; omega)]
      rw [hbf q hq, h5 q hq]
      by_cases h6 : 0 ≤ pr q
      · rw [hbf _ (hpn q hq h6)]
      · constructor <;> (rintro (e | ⟨e, _⟩); exact .inl e; exact absurd e h6)
    · obtain rfl : f = sc.length := by omega
      have e : (sc ++ [((k : Int), (n : Int))]).getD sc.length default = ((k : Int), (n : Int)) := by simp [List.getD]
      rw [e]
      refine ⟨by dsimp only; omega, by dsimp only; omega, Int.le_refl _, fun q hq => ?_⟩
      dsimp only
      have hf0 : ∀ q, q < n → (br' q sc.length = true ↔ q = k) := fun q hq => by
        rw [hb q hq]
        by_cases e : q = k
        · rw [if_pos ⟨e, rfl⟩]; exact ⟨fun _ => e, fun _ => rfl⟩
        · rw [if_neg (fun q => e q.1), h.fresh q _ hq (.inr (Int.le_refl _))]; exact ⟨fun q => (by cases q), fun q => absurd q e⟩
      rw [hf0 q hq]
      constructor
      · intro e; exact .inl (by rw [e])
      · rintro (e | ⟨e, e2⟩)
        · omega
        · by_cases e3 : pr q = (k : Int)
          · rw [if_pos e3] at e2; omega
          · rw [if_neg e3, hf0 _ (hpn q hq e)] at e2; omega
theorem Inv.mend (h : Inv n kd pr br sc) {f0 : Nat} (y : Int) (hb : ∀ q, q < n → ∀ z, z ≠ (f0 : Int) → br' q z = br q z) (hb2 : ∀ q, q < n → ∀ z, br' q z = true → br q z = true) : Inv n kd pr br' (sc.set f0 (-1, y)) := by
  have hpn : ∀ q, q < n → 0 ≤ pr q → (pr q).toNat < n := fun q hq h0 => by have := h.ok q hq; omega
  refine ⟨h.ok, fun q z hq hz => ?_, fun f hf h0 => ?_⟩
  · rw [List.length_set] at hz
    cases e : br' q z with
    | false => rfl
    | true => have := hb2 q hq z e; rw [h.fresh q z hq hz] at this; cases this
  · rw [List.length_set] at hf
    have hne : f ≠ f0 := by
      rintro rfl
      have : (sc.set f (-1, y)).getD f default = (-1, y) := by simp [List.getD, hf]
      rw [this] at h0; exact absurd h0 (show ¬ (0 ≤ (-1 : Int)) by decide)
    have e : (sc.set f0 (-1, y)).getD f default = sc.getD f default := by simp [List.getD, hne.symm]
    rw [e] at h0 ⊢
    obtain ⟨h2, h3, h4, h5⟩ := h.flaw f hf h0
    refine ⟨h2, h3, h4, fun q hq => ?_⟩
    have hbf : ∀ q, q < n → br' q f = br q f := fun q hq => hb q hq f (by omega)
    rw [hbf q hq, h5 q hq]
    by_cases h6 : 0 ≤ pr q
    · rw [hbf _ (hpn q hq h6)]
    · constructor <;> (rintro (e | ⟨e, _⟩); exact .inl e; exact absurd e h6)
end
end Go.Proofs.YtncleikbggjmjaaGreatDoor.Plg
/- Shops of plates in plain Lean: each run keeps it. -/
namespace Go.Proofs.YtncleikbggjmjaaGreatDoor.Plg
open Go.Sx Go.Proofs Go.RowKit
open Lis (Plt PlOk plOk)
section
variable {l1 l2 : List (Plt × BF)} {p p' : Plt} {f f' : BF} {q : Nat} {z : Int}
theorem kd_put (h : p'.kind = p.kind) : kdL (l1 ++ (p', f') :: l2) q = kdL (l1 ++ (p, f) :: l2) q := by
  show ((l1 ++ (p', f') :: l2).getD q default).1.kind = _
  rw [getD_put l1 (p, f) (p', f') l2 q]
  by_cases e : q = l1.length
  · rw [if_pos e]; subst e; show p'.kind = ((l1 ++ (p, f) :: l2).getD l1.length default).1.kind; rw [getD_mid, if_pos rfl]; exact h
  · rw [if_neg e]
theorem pr_put (h : p'.par = p.par) : prL (l1 ++ (p', f') :: l2) q = prL (l1 ++ (p, f) :: l2) q := by
  show ((l1 ++ (p', f') :: l2).getD q default).1.par = _
  rw [getD_put l1 (p, f) (p', f') l2 q]
  by_cases e : q = l1.length
  · rw [if_pos e]; subst e; show p'.par = ((l1 ++ (p, f) :: l2).getD l1.length default).1.par; rw [getD_mid, if_pos rfl]; exact h
  · rw [if_neg e]
theorem br_put : brL (l1 ++ (p', f') :: l2) q z = if q = l1.length then (f' z).isSome else brL (l1 ++ (p, f) :: l2) q z := by
  show (((l1 ++ (p', f') :: l2).getD q default).2 z).isSome = _
  rw [getD_put l1 (p, f) (p', f') l2 q]
  by_cases e : q = l1.length
  · rw [if_pos e, if_pos e]
  · rw [if_neg e, if_neg e]
theorem br_at : brL (l1 ++ (p, f) :: l2) l1.length z = (f z).isSome := by
  show (((l1 ++ (p, f) :: l2).getD l1.length default).2 z).isSome = _
  rw [getD_mid, if_pos rfl]
theorem kd_at : kdL (l1 ++ (p, f) :: l2) l1.length = p.kind := by
  show ((l1 ++ (p, f) :: l2).getD l1.length default).1.kind = _
  rw [getD_mid, if_pos rfl]
theorem len_put : (l1 ++ (p', f') :: l2).length = (l1 ++ (p, f) :: l2).length := by simp
end
theorem run_inv {l : List (Nat → Int)} {x : St} {sc : List (Int × Int)} (h : Run l x sc) : Inv x.l.length (kdL x.l) (prL x.l) (brL x.l) sc := by
  induction h with
  | nil => exact ⟨fun q hq => absurd hq (Nat.not_lt_zero _), fun q z hq => absurd hq (Nat.not_lt_zero _), fun f hf => absurd hf (Nat.not_lt_zero _)⟩
  | @snoc l x sc a n e x' hr s ih =>
    have hlen := run_len hr
    unfold scar
    cases s with
    | err n he => rw [if_pos he]; exact ih
    | bath h0 n => rw [if_neg (by decide), if_neg (by omega), if_neg (by omega)]; exact ih
    | lacquer h0 hl =>
      rw [if_neg (by decide), if_neg (by omega), if_neg (by omega)]
      dsimp only
      rw [List.length_append, List.length_singleton]
      refine ih.push (fun q hq => ?_) (fun q hq => ?_) (fun q hq z => ?_) (.inl ⟨?_, ?_, fun z => ?_⟩)
      · show ((x.l ++ [_]).getD q default).1.kind = _; rw [getD_app _ _ (by omega), if_neg (by omega)]
      · show ((x.l ++ [_]).getD q default).1.par = _; rw [getD_app _ _ (by omega), if_neg (by omega)]
      · show (((x.l ++ [_]).getD q default).2 z).isSome = _; rw [getD_app _ _ (by omega), if_neg (by omega)]
      · show ((x.l ++ [_]).getD x.l.length default).1.kind = _; rw [getD_app _ _ (Nat.le_refl _), if_pos rfl]
      · show ((x.l ++ [_]).getD x.l.length default).1.par = _; rw [getD_app _ _ (Nat.le_refl _), if_pos rfl]
      · show (((x.l ++ [_]).getD x.l.length default).2 z).isSome = _; rw [getD_app _ _ (Nat.le_refl _), if_pos rfl]; rfl
    | @grow h0 l1 l2 p f hx h5 hk hl thick =>
      rw [if_neg (by decide), if_neg (by omega), if_neg (by omega)]
      dsimp only
      rw [hx] at ih
      have hll : (l1 ++ (grownP p, f) :: l2).length = (l1 ++ (p, f) :: l2).length := len_put
      rw [List.length_append, List.length_singleton, hll]
      generalize hn : (l1 ++ (p, f) :: l2).length = m at ih hll
      have hk1 : l1.length < m := by rw [← hn]; simp
      refine ih.push (fun q hq => ?_) (fun q hq => ?_) (fun q hq z => ?_) (.inr ⟨l1.length, hk1, ?_, ?_, ?_, fun z => ?_⟩)
      · show ((l1 ++ (grownP p, f) :: l2 ++ [_]).getD q default).1.kind = _; rw [getD_app _ _ (by omega), if_neg (by omega)]; exact kd_put rfl
      · show ((l1 ++ (grownP p, f) :: l2 ++ [_]).getD q default).1.par = _; rw [getD_app _ _ (by omega), if_neg (by omega)]; exact pr_put rfl
      · show (((l1 ++ (grownP p, f) :: l2 ++ [_]).getD q default).2 z).isSome = _; rw [getD_app _ _ (by omega), if_neg (by omega)]
        refine (br_put (p := p) (f := f)).trans ?_
        by_cases e : q = l1.length
        · rw [if_pos e, e, br_at]
        · rw [if_neg e]
      · rw [kd_at]; exact hk
      · show ((l1 ++ (grownP p, f) :: l2 ++ [_]).getD m default).1.kind = _; rw [getD_app _ _ (by omega), if_pos (by omega), kd_at]
      · show ((l1 ++ (grownP p, f) :: l2 ++ [_]).getD m default).1.par = _; rw [getD_app _ _ (by omega), if_pos (by omega)]; exact h5
      · show (((l1 ++ (grownP p, f) :: l2 ++ [_]).getD m default).2 z).isSome = _; rw [getD_app _ _ (by omega), if_pos (by omega), br_at]
    | @flaw h0 l1 l2 p f hx h5 hn =>
      rw [if_neg (by decide), if_pos h0]
      dsimp only
      rw [hx] at ih
      rw [len_put (p := p) (f := f), h5]
      have hk1 : l1.length < (l1 ++ (p, f) :: l2).length := by simp
      have ih2 := ih.congr (kd' := kdL (l1 ++ (p, upd f x.nf (some ())) :: l2)) (pr' := prL (l1 ++ (p, upd f x.nf (some ())) :: l2)) (br' := brL (l1 ++ (p, f) :: l2)) (fun q _ => kd_put rfl) (fun q _ => pr_put rfl) (fun q _ z => rfl)
      refine ih2.scar hk1 (fun q hq z => ?_);refine (br_put (p := p) (f := f)).trans ?_
      by_cases e : q = l1.length
      · rw [if_pos e]
        by_cases e2 : z = (sc.length : Int)
        · rw [if_pos ⟨e, e2⟩, e2, hlen]; simp [upd]
        · rw [if_neg (fun q => e2 q.2), e, br_at]; unfold upd; rw [if_neg (by rw [← hlen]; exact e2)]
      · rw [if_neg e, if_neg (fun q => e q.1)]
    | @mend h0 l1 l2 p f hx h5 h12 hf =>
      rw [if_neg (by decide), if_neg (by omega), if_pos h0]
      dsimp only
      rw [hx] at ih
      rw [len_put (p := p) (f := f)]
      have ih2 := ih.congr (kd' := kdL (l1 ++ (p, upd f (a 12) none) :: l2)) (pr' := prL (l1 ++ (p, upd f (a 12) none) :: l2)) (br' := brL (l1 ++ (p, f) :: l2)) (fun q _ => kd_put rfl) (fun q _ => pr_put rfl) (fun q _ z => rfl)
      refine ih2.mend _ (fun q hq z hz => ?_) (fun q hq z hz => ?_)
      · refine (br_put (p := p) (f := f)).trans ?_
        by_cases e : q = l1.length
        · rw [if_pos e, e, br_at]; unfold upd; rw [if_neg (by omega)]
        · rw [if_neg e]
      · have hz2 := (br_put (p := p) (f := f)).symm.trans hz
        by_cases e : q = l1.length
        · rw [if_pos e] at hz2
          rw [e, br_at]
          unfold upd at hz2
          by_cases e2 : z = a 12
          · rw [if_pos e2] at hz2; cases hz2
          · rwa [if_neg e2] at hz2
        · rwa [if_neg e] at hz2
    | @retire h0 l1 l2 p f hx h5 =>
      rw [if_neg (by decide), if_neg (by omega), if_neg (by omega)]
      dsimp only
      rw [hx] at ih
      rw [len_put (p := p) (f := f)]
      refine ih.congr (fun q _ => kd_put rfl) (fun q _ => pr_put rfl) (fun q _ z => ?_);refine (br_put (p := p) (f := f)).trans ?_
      by_cases e : q = l1.length
      · rw [if_pos e, e, br_at]
      · rw [if_neg e]
end Go.Proofs.YtncleikbggjmjaaGreatDoor.Plg
/- Which causes are left, what is certain and possible, which disc comes next; in plain Lean. -/
namespace Go.Proofs.YtncleikbggjmjaaGreatDoor.Lis
open Go.Sx
def idxS (d : List Dsc) (s : Int) : Nat := (serS d).findIdx (· == s)
def known (d : List Dsc) (s : Int) : Bool := (serS d).contains s
def agree1 (d : List Dsc) (x : Sus) (y : Hrg) : Bool := x.has.getD (idxS d y.ser) default == y.yes
def agree (d : List Dsc) (h : List Hrg) (x : Sus) : Bool := h.all (agree1 d x)
def leftS (p : List Plt) (d : List Dsc) (side : Int) (h : List Hrg) : List Sus := (causS p d side).filter (agree d h)
def hearE (p : List Plt) (d : List Dsc) (side : Int) (h : List Hrg) : Int := if beginE p d side = 0 then (if 200 < h.length then 6 else if h.all (fun y => known d y.ser) then 0 else 5) else beginE p d side
def mny (l : List Sus) (i : Nat) : Nat := l.countP fun x => x.has.getD i default
def pick (d : List Dsc) (f : Nat → Bool) : List Int := ((List.range d.length).filter f).map fun i => (d.getD i default).ser
def hasS (d : List Dsc) (x : Sus) : List Int := pick d fun i => x.has.getD i default
def certB (l : List Sus) (i : Nat) : Bool := decide (0 < mny l i) && decide (mny l i = l.length)
def possB (l : List Sus) (i : Nat) : Bool := decide (0 < mny l i)
def certS (d : List Dsc) (l : List Sus) : List Int := pick d (certB l)
def possS (d : List Dsc) (l : List Sus) : List Int := pick d (possB l)
def same (l : List Sus) : Bool := l.all fun x => x.has == (l.getD 0 default).has
theorem hearE_zero {p : List Plt} {d : List Dsc} {side : Int} {h : List Hrg} : hearE p d side h = 0 ↔ Room p d side ∧ h.length ≤ 200 ∧ ∀ y ∈ h, known d y.ser = true := by
  unfold hearE
  rw [← beginE_zero]
  split
  · rename_i h0
    split
    · constructor
      · intro h; cases h
      · intro h; omega
    · split
      · rename_i h1 h2; exact ⟨fun _ => ⟨h0, by omega, by simpa using h2⟩, fun _ => rfl⟩
      · rename_i h1 h2; exact ⟨fun h => (by cases h), fun h => absurd (by simpa using h.2.2) h2⟩
  · rename_i h0; exact ⟨fun h => absurd h h0, fun h => absurd h.1 h0⟩
theorem known_iff {d : List Dsc} {s : Int} : known d s = true ↔ ∃ i, i < d.length ∧ (d.getD i default).ser = s := by
  unfold known serS
  rw [List.contains_iff_mem, List.mem_map]
  constructor
  · rintro ⟨x, hx, rfl⟩
    obtain ⟨i, hi, rfl⟩ := List.getElem_of_mem hx
    exact ⟨i, hi, by simp [List.getD, hi]⟩
  · rintro ⟨i, hi, rfl⟩
    exact ⟨d.getD i default, by simp [List.getD, hi], rfl⟩
theorem idxS_of {p : List Plt} {d : List Dsc} (h : DsOk p d) {i : Nat} (hi : i < d.length) : idxS d (d.getD i default).ser = i := by
  unfold idxS
  generalize hs : (d.getD i default).ser = s
  have hl := serS_len d
  have hex : ∃ x ∈ serS d, (x == s) = true := ⟨s, by rw [← hs, ← serS_get hi]; simp [List.getD, hl, hi], by simp⟩
  have hlt := List.findIdx_lt_length_of_exists hex
  have hp : ((serS d)[(serS d).findIdx (· == s)]'hlt == s) = true := List.findIdx_getElem (w := hlt)
  have e := serS_get (d := d) (i := (serS d).findIdx (· == s)) (by omega)
  generalize (serS d).findIdx (· == s) = q at *
  have e2 : (serS d).getD q default = (serS d)[q] := by simp [List.getD, hlt]
  rw [e2] at e
  simp only [beq_iff_eq] at hp
  exact ser_inj h (by omega) hi (by rw [← e, hp, hs])
theorem mem_pick {d : List Dsc} {f : Nat → Bool} {s : Int} : s ∈ pick d f ↔ ∃ i, i < d.length ∧ f i = true ∧ (d.getD i default).ser = s := by
  unfold pick
  simp only [List.mem_map, List.mem_filter, List.mem_range, and_assoc]
theorem pick_congr {d : List Dsc} {f g : Nat → Bool} (h : ∀ i, i < d.length → f i = g i) : pick d f = pick d g := by
  unfold pick
  congr 1
  apply List.filter_congr
  intro i hi
  exact h i (List.mem_range.1 hi)
theorem mem_pick_ser {p : List Plt} {d : List Dsc} (h : DsOk p d) {f : Nat → Bool} {i : Nat} (hi : i < d.length) : (d.getD i default).ser ∈ pick d f ↔ f i = true := by
  rw [mem_pick]
  constructor
  · rintro ⟨j, hj, hf, e⟩
    rw [← ser_inj h hj hi e]; exact hf
  · exact fun hf => ⟨i, hi, hf, rfl⟩
/-! ### the causes -/
theorem plate1_mem {p : List Plt} {d : List Dsc} {side : Int} {i : Nat} {x : Sus} : x ∈ plate1 p d side i ↔
    ((p.getD i default).kind = 3 ∧ ∃ k, k < d.length ∧ (under p d side i 0).getD k default = true ∧ x = ⟨i, (d.getD k default).ser, fromK (under p d side i 0) k⟩) ∨
    ((p.getD i default).kind ≠ 3 ∧ ∃ k, k < p.length ∧ i < k ∧ (p.getD k default).par = i ∧ x = ⟨i, k, under p d side i k⟩) := by
  unfold plate1
  split
  · rename_i h3
    simp only [List.mem_flatMap, List.mem_range, stamp1]
    constructor
    · rintro ⟨k, hk, hx⟩
      split at hx
      · rename_i hu; exact .inl ⟨h3, k, hk, hu, List.mem_singleton.1 hx⟩
      · cases hx
    · rintro (⟨_, k, hk, hu, rfl⟩ | ⟨h4, _⟩)
      · exact ⟨k, hk, by rw [if_pos hu]; exact List.mem_singleton.2 rfl⟩
      · exact absurd h3 h4
  · rename_i h3
    simp only [List.mem_flatMap, List.mem_range, child1]
    constructor
    · rintro ⟨k, hk, hx⟩
      split at hx
      · rename_i hu; exact .inr ⟨h3, k, hk, hu.1, hu.2, List.mem_singleton.1 hx⟩
      · cases hx
    · rintro (⟨h4, _⟩ | ⟨_, k, hk, h1, h2, rfl⟩)
      · exact absurd h4 h3
      · exact ⟨k, hk, by rw [if_pos ⟨h1, h2⟩]; exact List.mem_singleton.2 rfl⟩
theorem causS_mem {p : List Plt} {d : List Dsc} {side : Int} {x : Sus} : x ∈ causS p d side ↔ (∃ i, i < p.length ∧ x ∈ plate1 p d side i) ∨ ∃ k, k < d.length ∧ x = alone1 d k := by
  unfold causS
  simp only [List.mem_append, List.mem_flatMap, List.mem_map, List.mem_range]
  constructor
  · rintro (h | ⟨k, hk, rfl⟩)
    · exact .inl h
    · exact .inr ⟨k, hk, rfl⟩
  · rintro (h | ⟨k, hk, rfl⟩)
    · exact .inl h
    · exact .inr ⟨k, hk, rfl⟩
theorem causS_len {p : List Plt} {d : List Dsc} {side : Int} {x : Sus} (h : x ∈ causS p d side) : x.has.length = d.length := by
  rcases causS_mem.1 h with ⟨i, hi, hx⟩ | ⟨k, hk, rfl⟩
  · rcases plate1_mem.1 hx with ⟨_, k, _, _, rfl⟩ | ⟨_, k, _, _, _, rfl⟩
    · dsimp only; rw [fromK_len, under_len]
    · exact under_len ..
  · exact alone_len ..
/-! ### what is left -/
theorem leftS_mem {p : List Plt} {d : List Dsc} {side : Int} {h : List Hrg} {x : Sus} : x ∈ leftS p d side h ↔ x ∈ causS p d side ∧ ∀ y ∈ h, agree1 d x y = true := by
  unfold leftS agree
  rw [List.mem_filter, List.all_eq_true]
theorem mny_le (l : List Sus) (i : Nat) : mny l i ≤ l.length := List.countP_le_length
theorem mny_pos {l : List Sus} {i : Nat} : 0 < mny l i ↔ ∃ x ∈ l, x.has.getD i default = true := List.countP_pos_iff
theorem mny_all {l : List Sus} {i : Nat} : mny l i = l.length ↔ ∀ x ∈ l, x.has.getD i default = true := List.countP_eq_length
/-! ### the next disc -/
/-! ### what is certain, and possible -/
theorem cert_same {d : List Dsc} {l : List Sus} {x : Sus} (hx : x ∈ l) (h : ∀ y ∈ l, y.has = x.has) : certS d l = hasS d x ∧ possS d l = hasS d x := by
  have hl0 : 0 < l.length := List.length_pos_of_mem hx
  have key : ∀ i, (x.has.getD i default = true → mny l i = l.length) ∧ (x.has.getD i default = false → mny l i = 0) := by
    intro i
    constructor
    · intro hb
      exact mny_all.2 fun y hy => by rw [h y hy]; exact hb
    · intro hb
      rcases Nat.eq_zero_or_pos (mny l i) with h0 | h0
      · exact h0
      · obtain ⟨y, hy, hyb⟩ := mny_pos.1 h0
        rw [h y hy, hb] at hyb; cases hyb
  constructor
  · apply pick_congr
    intro i hi
    unfold certB
    cases hb : x.has.getD i default with
    | true => have := (key i).1 hb; simp [this, hl0]
    | false => have := (key i).2 hb; simp [this]
  · apply pick_congr
    intro i hi
    unfold possB
    cases hb : x.has.getD i default with
    | true => have := (key i).1 hb; simp [this, hl0]
    | false => have := (key i).2 hb; simp [this]
theorem left_full {p : List Plt} {d : List Dsc} {side : Int} (hd : DsOk p d) {h : List Hrg} {x : Sus} (hx : x ∈ leftS p d side h) (hall : ∀ i, i < d.length → ∃ y ∈ h, y.ser = (d.getD i default).ser) : ∀ y ∈ leftS p d side h, y.has = x.has := by
  intro y hy
  obtain ⟨hy1, hy2⟩ := leftS_mem.1 hy
  obtain ⟨hx1, hx2⟩ := leftS_mem.1 hx
  have l1 := causS_len hy1
  have l2 := causS_len hx1
  apply List.ext_getElem (by rw [l1, l2])
  intro i h1 h2
  obtain ⟨q, hq, e⟩ := hall i (by omega)
  have a1 := hy2 q hq
  have a2 := hx2 q hq
  unfold agree1 at a1 a2
  rw [e, idxS_of hd (by omega)] at a1 a2
  simp only [beq_iff_eq, List.getD, List.getElem?_eq_getElem h1, List.getElem?_eq_getElem h2, Option.getD_some] at a1 a2
  rw [a1, a2]
end Go.Proofs.YtncleikbggjmjaaGreatDoor.Lis
/- What the laws say of causes, in plain Lean. -/
namespace Go.Proofs.YtncleikbggjmjaaGreatDoor.Lis
open Go.Sx
theorem pigeon : ∀ (n : Nat) (f : Nat → Nat), (∀ i, i ≤ n → f i < n) → ∃ i j, i < j ∧ j ≤ n ∧ f i = f j
  | 0, f, h => absurd (h 0 (Nat.le_refl _)) (by omega)
  | n + 1, f, h => by
    by_cases he : ∃ i, i ≤ n ∧ f i = f (n + 1)
    · obtain ⟨i, hi, e⟩ := he
      exact ⟨i, n + 1, by omega, by omega, e⟩
    · have hne : ∀ i, i ≤ n → f i ≠ f (n + 1) := fun i hi e => he ⟨i, hi, e⟩
      obtain ⟨i, j, hij, hj, e⟩ := pigeon n (fun i => if f i = n then f (n + 1) else f i) (by
        intro i hi
        have h1 := h i (by omega)
        have h2 := h (n + 1) (by omega)
        have h3 := hne i hi
        split <;> omega)
      refine ⟨i, j, hij, by omega, ?_⟩
      have h1 := hne i (by omega)
      have h2 := hne j hj
      split at e <;> split at e <;> omega
section
variable {p : List Plt} {d : List Dsc} {side : Int}
theorem fromK_get {l : List Bool} {k q : Nat} : (fromK l k).getD q default = if q < k then false else l.getD q default := by
  unfold fromK
  simp only [List.getD, List.getElem?_append, List.length_replicate, List.getElem?_replicate, List.getElem?_drop]
  by_cases h : q < k
  · rw [if_pos h]
    by_cases h2 : q < min k l.length
    · rw [if_pos h2, if_pos h2]; rfl
    · rw [if_neg h2, List.getElem?_eq_none (by omega)]; rfl
  · rw [if_neg h]
    by_cases h2 : q < min k l.length
    · omega
    · rw [if_neg h2]
      by_cases h3 : k ≤ l.length
      · rw [show k + (q - min k l.length) = q by omega]
      · rw [List.getElem?_eq_none (by omega), List.getElem?_eq_none (by omega)]
theorem under_get' {plate frm : Int} {k : Nat} (hk : k < d.length) : (under p d side plate frm).getD k default = under1 p plate frm (ofS (d.getD k default) side) := by
  simp [under, stmS, List.getD, hk]
theorem under1_iff {plate frm s : Int} : under1 p plate frm s = true ↔ (climb p plate p.length s p.length).1 = plate ∧ frm ≤ (climb p plate p.length s p.length).2 := by
  unfold under1; simp
theorem has_climb {x : Sus} (hx : x ∈ causS p d side) (hp : x.plate ≠ -1) {k : Nat} (hk : k < d.length) (h : x.has.getD k default = true) : (climb p x.plate p.length (ofS (d.getD k default) side) p.length).1 = x.plate := by
  rcases causS_mem.1 hx with ⟨i, hi, hx1⟩ | ⟨q, hq, rfl⟩
  · rcases plate1_mem.1 hx1 with ⟨_, q, hq, _, rfl⟩ | ⟨_, q, hq, _, _, rfl⟩ <;> dsimp only at h ⊢
    · rw [fromK_get] at h
      split at h
      · cases h
      · rw [under_get' hk] at h; exact (under1_iff.1 h).1
    · rw [under_get' hk] at h; exact (under1_iff.1 h).1
  · exact absurd rfl hp
theorem climb_off {plate : Int} (hp : PlOk p) (h3 : (p.getD plate.toNat default).kind = 3) : ∀ (f : Nat) (s c : Int), (s = -1 ∨ (0 ≤ s ∧ s < p.length ∧ (p.getD s.toNat default).kind ≠ 3)) → 0 ≤ plate → (climb p plate f s c).1 ≠ plate
  | 0, s, c, h, h0 => by
    show s ≠ plate
    rintro rfl
    rcases h with rfl | ⟨_, _, h⟩
    · omega
    · exact h h3
  | f + 1, s, c, h, h0 => by
    by_cases hc : s ≠ plate ∧ 0 ≤ s
    · rw [climb_go hc]
      rcases h with rfl | ⟨h1, h2, h4⟩
      · omega
      · have hpl := Room.plate hp (i := s.toNat) (by omega)
        refine climb_off hp h3 f _ _ ?_ h0
        by_cases hk : (p.getD s.toNat default).kind = 0
        · exact .inl (hpl.2.2.2.2.1 hk)
        · have := hpl.2.2.2.2.2 hk
          exact .inr ⟨by omega, by omega, by omega⟩
    · rw [climb_stop hc]
      show s ≠ plate
      rintro rfl
      rcases h with rfl | ⟨_, _, h⟩
      · omega
      · exact h h3
theorem own_iff (hR : Room p d side) {i k : Nat} (h3 : (p.getD i default).kind = 3) (hi : i < p.length) (hk : k < d.length) : (under p d side i 0).getD k default = true ↔ ofS (d.getD k default) side = i := by
  rw [under_get' hk, under1_iff]
  have hs := ofS_in (side := side) hR.dsok hk
  constructor
  · rintro ⟨h1, _⟩
    refine Classical.byContradiction fun hne => ?_
    obtain ⟨n, hn⟩ : ∃ n, p.length = n + 1 := ⟨p.length - 1, by omega⟩
    rw [show climb p (i : Int) p.length (ofS (d.getD k default) side) (p.length : Int) = climb p (i : Int) (n + 1) (ofS (d.getD k default) side) (p.length : Int) by rw [← hn], climb_go ⟨hne, hs.1⟩] at h1
    have hpl := Room.plate hR.plok (i := (ofS (d.getD k default) side).toNat) (by omega)
    have h4 := hpl.2.2.2.2.2 (by omega)
    exact climb_off (plate := i) hR.plok (by rw [Int.toNat_natCast]; exact h3) n _ _ (.inr ⟨by omega, by omega, by omega⟩) (by omega) h1
  · intro e
    rw [e, climb_stop (by omega)]
    exact ⟨rfl, by dsimp only; omega⟩
end
end Go.Proofs.YtncleikbggjmjaaGreatDoor.Lis
/- Shops of plates in plain Lean: the plates that bear a flaw, and causes. -/
namespace Go.Proofs.YtncleikbggjmjaaGreatDoor.Plg
open Go.Sx Go.Proofs Go.RowKit
open Lis (Plt PlOk plOk climb climb_stop climb_go under under1 under_get' under1_iff Room)
def Bears (p : List Plt) (br : Nat → Bool) (X : Nat) (N : Int) : Prop := ∀ q, q < p.length → (br q = true ↔ (q : Int) = X ∨ (0 ≤ (p.getD q default).par ∧ if (p.getD q default).par = X then N ≤ q else br (p.getD q default).par.toNat = true))
section
variable {p : List Plt} {br : Nat → Bool} {X : Nat} {N frm : Int}
theorem climb_br (hp : PlOk p) (hB : Bears p br X N) (hf : ∀ k : Nat, k < p.length → (p.getD k default).par = X → (frm ≤ k ↔ N ≤ k)) : ∀ (f s : Nat) (c : Int), s < p.length → s < f → s ≠ X →
    (((climb p X f s c).1 = X ∧ frm ≤ (climb p X f s c).2) ↔ br s = true)
  | 0, s, c, _, h, _ => absurd h (Nat.not_lt_zero _)
  | f + 1, s, c, hs, hsf, hne => by
    have hpl := Room.plate hp hs
    rw [climb_go ⟨by omega, by omega⟩, Int.toNat_natCast, hB s hs]
    by_cases h1 : (p.getD s default).par = X
    · rw [h1, climb_stop (by omega), if_pos rfl]
      constructor
      · rintro ⟨_, h2⟩; exact .inr ⟨by omega, (hf s hs h1).1 h2⟩
      · rintro (h2 | ⟨_, h2⟩)
        · omega
        · exact ⟨rfl, (hf s hs h1).2 h2⟩
    · rw [if_neg h1]
      by_cases h2 : 0 ≤ (p.getD s default).par
      · obtain ⟨j, hj⟩ : ∃ j : Nat, (p.getD s default).par = j := ⟨(p.getD s default).par.toNat, by omega⟩
        rw [hj, climb_br hp hB hf f j s (by omega) (by omega) (by omega), Int.toNat_natCast]
        constructor
        · exact fun e => .inr ⟨by omega, e⟩
        · rintro (e | ⟨_, e⟩)
          · omega
          · exact e
      · rw [climb_stop (by omega)]
        constructor
        · rintro ⟨e, _⟩; dsimp only at e; omega
        · rintro (e | ⟨e, _⟩) <;> omega
theorem bears_child (hp : PlOk p) (hB : Bears p br X N) : ∀ (n s : Nat), s < n → s < p.length → s ≠ X → br s = true → ∃ k : Nat, k < p.length ∧ (p.getD k default).par = X ∧ N ≤ k
  | 0, s, h, _, _, _ => absurd h (Nat.not_lt_zero _)
  | n + 1, s, hn, hs, hne, hb => by
    have hpl := Room.plate hp hs
    rcases (hB s hs).1 hb with h | ⟨h1, h2⟩
    · omega
    · by_cases h3 : (p.getD s default).par = X
      · rw [if_pos h3] at h2; exact ⟨s, hs, h3, h2⟩
      · rw [if_neg h3] at h2
        exact bears_child hp hB n _ (by omega) (by omega) (by omega) h2
theorem bears_own (hp : PlOk p) (hX : X < p.length) (h3 : (p.getD X default).kind = 3) (hB : Bears p br X N) : ∀ (n s : Nat), s < n → s < p.length → br s = true → s = X
  | 0, s, h, _, _ => absurd h (Nat.not_lt_zero _)
  | n + 1, s, hn, hs, hb => by
    have hpl := Room.plate hp hs
    rcases (hB s hs).1 hb with h | ⟨h1, h2⟩
    · omega
    · by_cases h4 : (p.getD s default).par = X
      · have h5 := hpl.2.2.2.2.2 (fun e => by have := hpl.2.2.2.2.1 e; omega)
        rw [h4, Int.toNat_natCast, h3] at h5
        omega
      · rw [if_neg h4] at h2
        have := bears_own hp hX h3 hB n _ (by omega) (by omega) h2
        omega
theorem least_ex {P : Nat → Prop} {n : Nat} (h : P n) : ∃ m, P m ∧ ∀ k, k < m → ¬ P k := by
  induction n using Nat.strongRecOn with
  | ind n ih =>
    by_cases e : ∃ k, k < n ∧ P k
    · obtain ⟨k, h1, h2⟩ := e; exact ih k h1 h2
    · exact ⟨n, h, fun k hk hp => e ⟨k, hk, hp⟩⟩
theorem climb_up (hp : PlOk p) {Y : Int} (hY : 0 ≤ Y) : ∀ (f : Nat) (s c : Int), s < f → s < p.length → (climb p Y f s c).1 = Y → Y ∈ upF p f s
  | 0, s, c, h1, h2, h => by
    have : s = Y := h
    omega
  | f + 1, s, c, h1, h2, h => by
    by_cases h0 : 0 ≤ s
    · rw [upF, if_pos h0]
      by_cases e : s = Y
      · rw [e]; exact List.mem_cons_self ..
      · rw [climb_go ⟨e, h0⟩] at h
        have hpl := Room.plate hp (i := s.toNat) (by omega)
        exact List.mem_cons_of_mem _ (climb_up hp hY f _ _ (by omega) (by omega) h)
    · rw [climb_stop (by omega)] at h
      have : s = Y := h
      omega
end
theorem run_ok {l : List (Nat → Int)} {x : St} {sc : List (Int × Int)} (h : Run l x sc) : PlOk (x.l.map (·.1)) := by
  have hI := run_inv h
  intro i hi
  rw [List.length_map] at hi
  have hg : ∀ q, q < x.l.length → (x.l.map (·.1)).getD q default = (x.l.getD q default).1 := fun q hq => by simp [List.getD, hq]
  have h1 := hI.ok i hi
  unfold plOk
  rw [hg i hi]
  simp only [Bool.or_eq_true, Bool.and_eq_true, decide_eq_true_eq, Lis.betw_iff]
  rcases h1 with h1 | ⟨h1, h2, h3, h4, h5⟩
  · exact .inl h1
  · have h6 : (prL x.l i).toNat < x.l.length := by omega
    have a1 : 1 ≤ (x.l.getD i default).1.kind := h1
    have a2 : (x.l.getD i default).1.kind ≤ 3 := h2
    have a3 : 0 ≤ (x.l.getD i default).1.par := h3
    have a4 : (x.l.getD i default).1.par < i := h4
    rw [hg _ h6]
    refine .inr ⟨⟨⟨by omega, by omega⟩, by omega, by omega⟩, h5⟩
theorem run_bears {l : List (Nat → Int)} {x : St} {sc : List (Int × Int)} (h : Run l x sc) {f : Nat} (hf : f < sc.length) (h0 : 0 ≤ (sc.getD f default).1) : ∃ X : Nat, (sc.getD f default).1 = X ∧ X < x.l.length ∧ Bears (x.l.map (·.1)) (fun q => brL x.l q f) X (sc.getD f default).2 := by
  have hI := run_inv h
  obtain ⟨h1, _, _, h2⟩ := hI.flaw f hf h0
  refine ⟨(sc.getD f default).1.toNat, by omega, by omega, fun q hq => ?_⟩
  rw [List.length_map] at hq
  have hg : (x.l.map (·.1)).getD q default = (x.l.getD q default).1 := by simp [List.getD, hq]
  rw [hg, show (((sc.getD f default).1.toNat : Nat) : Int) = (sc.getD f default).1 by omega]
  exact h2 q hq
end Go.Proofs.YtncleikbggjmjaaGreatDoor.Plg
/- Binomials, the ways of a sample, and samplings, in plain Lean. -/
namespace Go.Proofs.YtncleikbggjmjaaGreatDoor.Lis
def ch : Nat → Nat → Nat
  | _, 0 => 1
  | 0, _ + 1 => 0
  | n + 1, k + 1 => ch n k + ch n (k + 1)
theorem ch_zero (n : Nat) : ch n 0 = 1 := by cases n <;> rfl
theorem ch_succ (n k : Nat) : ch (n + 1) (k + 1) = ch n k + ch n (k + 1) := rfl
theorem ch_gt : ∀ {n k : Nat}, n < k → ch n k = 0
  | 0, 0, h => by omega
  | 0, k + 1, _ => rfl
  | n + 1, 0, h => by omega
  | n + 1, k + 1, h => by rw [ch_succ, ch_gt (n := n) (k := k) (by omega), ch_gt (n := n) (k := k + 1) (by omega)]
theorem ch_self : ∀ n : Nat, ch n n = 1
  | 0 => rfl
  | n + 1 => by rw [ch_succ, ch_self n, ch_gt (by omega)]
theorem ch_pow : ∀ n k : Nat, ch n k ≤ 2 ^ n
  | 0, 0 => by decide
  | 0, k + 1 => by rw [ch_gt (by omega)]; omega
  | n + 1, 0 => by rw [ch_zero]; exact Nat.one_le_two_pow
  | n + 1, k + 1 => by
    have h1 := ch_pow n k
    have h2 := ch_pow n (k + 1)
    rw [ch_succ, Nat.pow_succ]; omega
def cz (m s k : Nat) : Nat := if k ≤ s then ch m (s - k) else 0
theorem cz_zero (m s : Nat) : cz m s 0 = ch m s := rfl
theorem cz_gt {m s k : Nat} (h : s < k) : cz m s k = 0 := if_neg (by omega)
theorem cz_succ (m s k : Nat) : cz m (s + 1) (k + 1) = cz m s k := by
  unfold cz
  by_cases h : k ≤ s
  · rw [if_pos h, if_pos (by omega), show s + 1 - (k + 1) = s - k by omega]
  · rw [if_neg h, if_neg (by omega)]
def wy (b m s : Nat) : Nat → Nat
  | 0 => 0
  | c + 1 => wy b m s c + ch b c * cz m s c
theorem wy_mono {b m s : Nat} {c : Nat} : ∀ d, wy b m s c ≤ wy b m s (c + d)
  | 0 => Nat.le_refl _
  | d + 1 => Nat.le_trans (wy_mono d) (Nat.le_add_right _ _)
theorem wy_le {b m s c d : Nat} (h : c ≤ d) : wy b m s c ≤ wy b m s d := by
  obtain ⟨q, rfl⟩ := Nat.exists_eq_add_of_le h
  exact wy_mono q
theorem wy_van : ∀ (b m s N : Nat), s < N → wy b m s N = ch (b + m) s
  | 0, m, s, N, h => by
    have : ∀ q, wy 0 m s (q + 1) = ch m s := by
      intro q
      induction q with
      | zero => show 0 + ch 0 0 * cz m s 0 = ch m s; rw [ch_zero, cz_zero]; omega
      | succ q ih =>
        have e : wy 0 m s (q + 1 + 1) = wy 0 m s (q + 1) + ch 0 (q + 1) * cz m s (q + 1) := rfl
        rw [e, ih, ch_gt (n := 0) (k := q + 1) (by omega), Nat.zero_mul, Nat.add_zero]
    obtain ⟨q, rfl⟩ : ∃ q, N = q + 1 := ⟨N - 1, by omega⟩
    rw [this q, Nat.zero_add]
  | b + 1, m, 0, N, h => by
    have : ∀ q, wy (b + 1) m 0 (q + 1) = 1 := by
      intro q
      induction q with
      | zero => show 0 + ch (b + 1) 0 * cz m 0 0 = 1; rw [ch_zero, cz_zero, ch_zero]
      | succ q ih =>
        have e : wy (b + 1) m 0 (q + 1 + 1) = wy (b + 1) m 0 (q + 1) + ch (b + 1) (q + 1) * cz m 0 (q + 1) := rfl
        rw [e, ih, cz_gt (by omega), Nat.mul_zero]
    obtain ⟨q, rfl⟩ : ∃ q, N = q + 1 := ⟨N - 1, by omega⟩
    rw [this q, ch_zero]
  | b + 1, m, s + 1, N, h => by
    have key : ∀ q, wy (b + 1) m (s + 1) (q + 1) = wy b m (s + 1) (q + 1) + wy b m s q := by
      intro q
      induction q with
      | zero => show 0 + ch (b + 1) 0 * cz m (s + 1) 0 = 0 + ch b 0 * cz m (s + 1) 0 + 0; rw [ch_zero, ch_zero]; rfl
      | succ q ih =>
        have e1 : wy (b + 1) m (s + 1) (q + 1 + 1) = wy (b + 1) m (s + 1) (q + 1) + ch (b + 1) (q + 1) * cz m (s + 1) (q + 1) := rfl
        have e2 : wy b m (s + 1) (q + 1 + 1) = wy b m (s + 1) (q + 1) + ch b (q + 1) * cz m (s + 1) (q + 1) := rfl
        have e3 : wy b m s (q + 1) = wy b m s q + ch b q * cz m s q := rfl
        rw [e1, e2, e3, ih, ch_succ, Nat.add_mul, cz_succ]; omega
    obtain ⟨q, rfl⟩ : ∃ q, N = q + 1 := ⟨N - 1, by omega⟩
    rw [key q, wy_van b m (s + 1) (q + 1) h, wy_van b m s q (by omega), show b + 1 + m = (b + m) + 1 by omega, ch_succ]; omega
theorem wy_all (b m s c : Nat) : wy b m s c ≤ ch (b + m) s := by
  rcases Nat.lt_or_ge s c with h | h
  · rw [wy_van b m s c h]; exact Nat.le_refl _
  · have := wy_le (b := b) (m := m) (s := s) (c := c) (d := s + 1) (by omega)
    rwa [wy_van b m s (s + 1) (by omega)] at this
theorem wy_end {b m s c : Nat} (h : min s b < c) : wy b m s c = ch (b + m) s := by
  rcases Nat.lt_or_ge s c with h1 | h1
  · exact wy_van b m s c h1
  · have key : ∀ d, wy b m s (c + d) = wy b m s c := by
      intro d
      induction d with
      | zero => rfl
      | succ d ih =>
        have e : wy b m s (c + (d + 1)) = wy b m s (c + d) + ch b (c + d) * cz m s (c + d) := rfl
        rw [e, ih, ch_gt (by omega), Nat.zero_mul, Nat.add_zero]
    have := key (s + 1 - c)
    rw [show c + (s + 1 - c) = s + 1 by omega, wy_van b m s (s + 1) (by omega)] at this
    exact this.symm
/-! samplings -/
structure Dmd where
  n : Int
  g : Int
  b : Int
  r : Int
  a : Int
structure Dmd.Ok (d : Dmd) : Prop where
  n : 0 ≤ d.n ∧ d.n ≤ 50
  g : 0 ≤ d.g
  b : d.g < d.b ∧ d.b ≤ d.n
  r : 0 ≤ d.r ∧ d.r ≤ 1000
  a : 0 ≤ d.a ∧ d.a ≤ 1000
def ways (n b s c : Int) : Int := (wy b.toNat (n - b).toNat s.toNat (c + 1).toNat : Nat)
def choo (n s : Int) : Int := (ch n.toNat s.toNat : Nat)
def Dmd.hold (d : Dmd) (s c : Int) : Bool := decide (1000 * (choo d.n s - ways d.n d.g s c) ≤ d.r * choo d.n s) && decide (1000 * ways d.n d.b s c ≤ d.a * choo d.n s)
theorem ways_bd {n b s c : Int} (hb : 0 ≤ b ∧ b ≤ n) : 0 ≤ ways n b s c ∧ ways n b s c ≤ choo n s := by
  unfold ways choo
  have := wy_all b.toNat (n - b).toNat s.toNat (c + 1).toNat
  rw [show b.toNat + (n - b).toNat = n.toNat by omega] at this
  omega
theorem choo_bd {n s : Int} (hn : n ≤ 50) : 0 ≤ choo n s ∧ choo n s ≤ 1125899906842624 := by
  unfold choo
  have h1 := ch_pow n.toNat s.toNat
  have h2 : 2 ^ n.toNat ≤ 2 ^ 50 := Nat.pow_le_pow_right (by decide) (by omega)
  have h3 : (2 : Nat) ^ 50 = 1125899906842624 := by decide
  omega
structure Samp (d : Dmd) (s c : Int) : Prop where
  hs : 0 ≤ s ∧ s ≤ d.n
  hc : 0 ≤ c ∧ c ≤ d.n
  hold : d.hold s c = true
  noc : ∀ c', 0 ≤ c' → c' < c → d.hold s c' = false
  nos : ∀ s' c', 0 ≤ s' → s' < s → 0 ≤ c' → c' ≤ d.n → d.hold s' c' = false
theorem Samp.unique {d : Dmd} {s c s' c' : Int} (h : Samp d s c) (h' : Samp d s' c') : s = s' ∧ c = c' := by
  have e : s = s' := by
    rcases Int.lt_trichotomy s s' with h1 | h1 | h1
    · have := h'.nos s c h.hs.1 h1 h.hc.1 h.hc.2; rw [h.hold] at this; cases this
    · exact h1
    · have := h.nos s' c' h'.hs.1 h1 h'.hc.1 h'.hc.2; rw [h'.hold] at this; cases this
  subst e
  refine ⟨rfl, ?_⟩
  rcases Int.lt_trichotomy c c' with h1 | h1 | h1
  · have := h'.noc c h.hc.1 h1; rw [h.hold] at this; cases this
  · exact h1
  · have := h.noc c' h'.hc.1 h1; rw [h'.hold] at this; cases this
theorem hold_whole {d : Dmd} (h : d.Ok) : d.hold d.n d.g = true := by
  obtain ⟨h1, h2, h3, h4, h5⟩ := h
  have hall : choo d.n d.n = 1 := by unfold choo; rw [ch_self]; rfl
  have hg : ways d.n d.g d.n d.g = 1 := by
    unfold ways
    rw [wy_end (by omega), show d.g.toNat + (d.n - d.g).toNat = d.n.toNat by omega, ch_self]; rfl
  have hb : ways d.n d.b d.n d.g = 0 := by
    have key : ∀ c, c ≤ d.b.toNat → wy d.b.toNat (d.n - d.b).toNat d.n.toNat c = 0 := by
      intro c
      induction c with
      | zero => intro _; rfl
      | succ c ih =>
        intro hc
        have e : wy d.b.toNat (d.n - d.b).toNat d.n.toNat (c + 1) = wy d.b.toNat (d.n - d.b).toNat d.n.toNat c + ch d.b.toNat c * cz (d.n - d.b).toNat d.n.toNat c := rfl
        have e2 : cz (d.n - d.b).toNat d.n.toNat c = 0 := by unfold cz; rw [if_pos (by omega)]; exact ch_gt (by omega)
        rw [e, ih (by omega), e2]; rfl
    unfold ways
    rw [key _ (by omega)]; rfl
  unfold Dmd.hold
  rw [hall, hg, hb]
  simp; omega
end Go.Proofs.YtncleikbggjmjaaGreatDoor.Lis
/- Pascal's triangle, the ways of a sample, walked. -/
namespace Go.Proofs.YtncleikbggjmjaaGreatDoor.Lis
open Go.Sx Go.Proofs
theorem C_betw {x lo hi : Int} {w : World} : Con0 Tryz.prog 55 [I x, I lo, I hi] w (.bool (betw x lo hi)) := by
  have hd : ∀ q : Bool, (betw x lo hi = true ↔ q = true) → Value.bool q = Value.bool (betw x lo hi) := fun q hq => congrArg Value.bool (by rw [Bool.eq_iff_iff, hq])
  refine Ret_of (vs := [_, _, _]) hm none' Tryz.func55 rfl Tryz.ntmps55 rfl ?_
  dsimp only [slotsOf]
  refine Zp 1 [] rfl ?_;refine Zv rfl ?_;refine GT_nil ?_;refine Zp 9 [] rfl ?_;refine Zr 2 rfl ?_;refine GT_S rfl (V_geq rfl rfl rfl) ?_;refine Zv rfl ?_;refine GT_split (d := 10) rfl (fun h1 => ?_) (fun h1 => ?_)
  · refine Zr 2 rfl ?_;refine GT_S rfl (V_leq rfl rfl rfl) ?_;refine Zr 2 rfl ?_;refine GT_nil ?_;refine GE_ret Tryz.func55 rfl (fun w hw => ⟨?_, hw.nil⟩)
    refine hd _ ?_;rw [betw_iff];(first | (simp; done) | (simp; omega))
  · refine Zr 5 rfl ?_;refine GT_nil ?_;refine GE_ret Tryz.func55 rfl (fun w hw => ⟨?_, hw.nil⟩)
    refine hd _ ?_;rw [betw_iff];(first | (simp; done) | (simp; omega))
theorem C_betw64 {x lo hi : Int} {w : World} : Con0 Tryz.prog 56 [I x, I lo, I hi] w (.bool (betw x lo hi)) := by
  have hd : ∀ q : Bool, (betw x lo hi = true ↔ q = true) → Value.bool q = Value.bool (betw x lo hi) := fun q hq => congrArg Value.bool (by rw [Bool.eq_iff_iff, hq])
  refine Ret_of (vs := [_, _, _]) hm none' Tryz.func56 rfl Tryz.ntmps56 rfl ?_
  dsimp only [slotsOf]
  refine Zp 1 [] rfl ?_;refine Zv rfl ?_;refine GT_nil ?_;refine Zp 9 [] rfl ?_;refine Zr 2 rfl ?_;refine GT_S rfl (V_geq rfl rfl rfl) ?_;refine Zv rfl ?_;refine GT_split (d := 10) rfl (fun h1 => ?_) (fun h1 => ?_)
  · refine Zr 2 rfl ?_;refine GT_S rfl (V_leq rfl rfl rfl) ?_;refine Zr 2 rfl ?_;refine GT_nil ?_;refine GE_ret Tryz.func56 rfl (fun w hw => ⟨?_, hw.nil⟩)
    refine hd _ ?_;rw [betw_iff];(first | (simp; done) | (simp; omega))
  · refine Zr 5 rfl ?_;refine GT_nil ?_;refine GE_ret Tryz.func56 rfl (fun w hw => ⟨?_, hw.nil⟩)
    refine hd _ ?_;rw [betw_iff];(first | (simp; done) | (simp; omega))
def trT (n k : Nat) : List Int := (List.range 2601).map fun i => if i / 51 < n ∨ (i / 51 = n ∧ i % 51 < k) then (ch (i / 51) (i % 51) : Int) else 0
def triL : List Int := trT 51 0
theorem trT_len (n k : Nat) : (trT n k).length = 2601 := by simp [trT]
theorem triL_len : triL.length = 2601 := trT_len 51 0
theorem trT_zero : trT 0 0 = List.replicate 2601 0 := by
  unfold trT
  generalize 2601 = N
  rw [List.eq_replicate_iff]
  refine ⟨by simp, fun b hb => ?_⟩
  obtain ⟨i, _, rfl⟩ := List.mem_map.1 hb
  rw [if_neg (by omega)]
theorem trT_set {n k : Nat} (hn : n < 51) (hk : k < 51) : (trT n k).set (n * 51 + k) (ch n k) = trT n (k + 1) := by
  apply List.ext_getElem (by simp [trT])
  intro i h1 h2
  rw [List.getElem_set]
  simp only [trT, List.getElem_map, List.getElem_range]
  by_cases e : n * 51 + k = i
  · subst e
    rw [if_pos rfl, if_pos (by omega), show (n * 51 + k) / 51 = n by omega, show (n * 51 + k) % 51 = k by omega]
  · rw [if_neg e]
    by_cases h : i / 51 < n ∨ (i / 51 = n ∧ i % 51 < k)
    · rw [if_pos h, if_pos (by omega)]
    · rw [if_neg h, if_neg (by omega)]
theorem trT_row (n : Nat) : trT n (n + 1) = trT (n + 1) 0 := by
  apply List.ext_getElem (by simp [trT])
  intro i h1 h2
  simp only [trT, List.getElem_map, List.getElem_range]
  by_cases h : i / 51 < n ∨ (i / 51 = n ∧ i % 51 < n + 1)
  · rw [if_pos h, if_pos (by omega)]
  · rw [if_neg h]
    by_cases h3 : i / 51 < n + 1 ∨ (i / 51 = n + 1 ∧ i % 51 < 0)
    · rw [if_pos h3, ch_gt (by omega)]; rfl
    · rw [if_neg h3]
theorem trT_get {n k i j : Nat} (hj : j < 51) (hi : i < 51) (h : i < n ∨ (i = n ∧ j < k)) : (trT n k).getD (i * 51 + j) default = ch i j := by
  have hlt : i * 51 + j < 2601 := by omega
  simp only [trT, List.getD, List.getElem?_map, List.getElem?_range hlt, Option.map_some, Option.getD_some]
  rw [show (i * 51 + j) / 51 = i by omega, show (i * 51 + j) % 51 = j by omega, if_pos h]
theorem triL_get {i j : Nat} (hj : j < 51) (hi : i < 51) : triL.getD (i * 51 + j) default = ch i j := trT_get hj hi (.inl hi)
theorem ch_cast {n k : Nat} (hn : 1 ≤ n) (hk : 1 ≤ k) : (ch n k : Int) = ch (n - 1) (k - 1) + ch (n - 1) k := by
  obtain ⟨n, rfl⟩ : ∃ q, n = q + 1 := ⟨n - 1, by omega⟩
  obtain ⟨k, rfl⟩ : ∃ q, k = q + 1 := ⟨k - 1, by omega⟩
  rw [ch_succ]; simp
theorem flat_I (l : List Int) : l.flatMap eI = l.map I := by
  induction l with
  | nil => rfl
  | cons x l ih => rw [List.flatMap_cons, ih]; rfl
set_option maxRecDepth 100000 in
theorem zc_tri : zcOf Tryz.prog 140 = some (List.replicate 2601 (I 0)) := by kernel_rfl
theorem ch_bd {n k : Nat} (hn : n ≤ 50) : (ch n k : Int) ≤ 1125899906842624 := by
  have h1 := ch_pow n k
  have h2 : 2 ^ n ≤ 2 ^ 50 := Nat.pow_le_pow_right (by decide) hn
  have h3 : (2 : Nat) ^ 50 = 1125899906842624 := by decide
  omega
theorem C_pascal {w : World} : Con Tryz.prog 35 [] w (fun _ : Nat => True) (fun g => ptr g 0) (fun g => [(g, blk (triL.flatMap eI) 140)]) := by
  refine Ret_of (vs := []) hm none' Tryz.func35 rfl Tryz.ntmps35 rfl ?_
  dsimp only [slotsOf]
  refine Zp 1 [] rfl ?_;refine Zv rfl ?_;refine GT_nil ?_;refine Zp 2 [0] rfl ?_;refine Zb rfl zc_tri fun b4 => ?_;refine Zv rfl ?_;refine Zz ?_;refine Zp 1 [] rfl ?_;refine Zv rfl ?_;refine GT_nil ?_;refine GE_block ?_;refine GE_to (GE_loop (ι := Nat × Items) (fun x => 51 - x.1) (fun x => [(1, ptr b4 0), (5, I x.1)]) (fun x => x.2) (fun x => x.1 ≤ 51 ∧ Own 1 140 eI (trT x.1 0) (.slice (some ⟨b4, 0, none⟩) 2601 2601) x.2) ?_ (0, [(b4, blk (List.replicate 2601 (I 0)) 140)]) ?_) ⟨rfl, rfl, trivial⟩ HS.last
  · rintro ⟨n, I1⟩ ⟨hn, hO⟩ ih; dsimp only at hn hO ih ⊢; have hl := trT_len n 0
    refine Zp 1 [] rfl ?_;refine GT_S rfl (V_lss rfl rfl rfl) ?_;refine Zz ?_;refine GE_cond rfl (fun h1 => ?_) (fun h1 => ?_)
    · have hn51 : n < 51 := (by omega)
      refine GE_skip ?_;refine GE_seq ?_;refine GE_block ?_;refine Zp 2 [] rfl ?_;refine Zr 2 rfl ?_;refine GT_nil ?_;refine Zp 6 [5] rfl ?_;refine Zr 3 rfl ?_;refine GT_S rfl (V_indexArr rfl rfl rfl Tryz.underlying140 sz_138 (kk := n) rfl hn51) ?_;refine GT_S rfl (V_indexArr (kk := 0) rfl rfl rfl Tryz.underlying138 sz_2 rfl (by omega)) ?_;refine GT_storeOwnQ (enc := eI) (q := n * 51 + 0) (xx := ch n 0) rfl rfl rfl rfl rfl rfl (by rw [ch_zero]; rfl) sz_2 hO eI_len eI_one (by omega) (by omega) (by decide) (fun _ _ => GR_nil) (fun I1' hO1 => ?_);refine Zz ?_;refine Zs [1, 2, 5] rfl ?_
      rw [trT_set hn51 (by decide)] at hO1
      refine ZP 1 [] rfl ?_;refine Zv rfl ?_;refine GT_nil ?_;refine GE_block ?_;refine GE_to (GE_loop (ι := Nat × Items) (fun x => n + 1 - x.1) (fun x => [(1, ptr b4 0), (2, I n), (3, I x.1), (5, I n)]) (fun x => x.2) (fun x => 1 ≤ x.1 ∧ x.1 ≤ n + 1 ∧ Own 1 140 eI (trT n x.1) (.slice (some ⟨b4, 0, none⟩) 2601 2601) x.2) ?_ (1, I1') ?_) ⟨rfl, rfl, rfl, rfl, trivial⟩ HS.last
      · rintro ⟨k, I2⟩ ⟨hk1, hk, hO2⟩ ih2; dsimp only at hk1 hk hO2 ih2 ⊢; have hl2 := trT_len n k
        refine GE_seq ?_;refine Zp 3 [] rfl ?_;refine Zr 2 rfl ?_;refine GT_S rfl (V_leq rfl rfl rfl) ?_;refine GT_nil ?_;refine GE_cond rfl (fun h2 => ?_) (fun h2 => ?_)
        · have hkn : k ≤ n := (by omega); have e1 := trT_get (n := n) (k := k) (i := n - 1) (j := k - 1) (by omega) (by omega) (by omega); have e2 := trT_get (n := n) (k := k) (i := n - 1) (j := k) (by omega) (by omega) (by omega); have b1 := ch_bd (n := n - 1) (k := k - 1) (by omega); have b2 := ch_bd (n := n - 1) (k := k) (by omega)
          refine GE_skip ?_;refine GE_seq ?_;refine GE_block ?_;refine GE_drawn (.st 0 (.st 1 (.st 2 (.st 3 (.st 4 (.st 5 (.st 6 (.st 7 (.st 8 (.st 9 (.st 10 (.st 11 (.st 12 (.st 13 (.st 14 (.st 15 (.st 16 (.st 17 (.st 18 (.st 19 (.st 20 (.st 21 (.st 22 (.st 23 (.ld 24 [] .nil))))))))))))))))))))))))) [24] (by decide +kernel) ?_;refine Zr 5 rfl ?_;refine Za rfl (by omega) ?_;refine Zv rfl ?_;refine Za rfl (by omega) ?_;refine Zv rfl ?_;refine GT_S rfl (V_indexArr rfl rfl rfl Tryz.underlying140 sz_138 (kk := n - 1) (by omega) (by omega)) ?_;refine GT_S rfl (V_indexArr rfl rfl rfl Tryz.underlying138 sz_2 (kk := k - 1) (by omega) (by omega)) ?_;refine ZL rfl ag_2 (CellAt.ownQ (k := (n - 1) * 51 + (k - 1)) (j := 0) hO2 eI_len (by omega) (by omega) (by rw [e1]; rfl)) ?_;refine Zr 2 rfl ?_;refine Za rfl (by omega) ?_;refine Zr 2 rfl ?_;refine GT_S rfl (V_indexArr rfl rfl rfl Tryz.underlying140 sz_138 (kk := n - 1) (by omega) (by omega)) ?_;refine GT_S rfl (V_indexArr rfl rfl rfl Tryz.underlying138 sz_2 (kk := k) rfl (by omega)) ?_;refine ZL rfl ag_2 (CellAt.ownQ (k := (n - 1) * 51 + k) (j := 0) hO2 eI_len (by omega) (by omega) (by rw [e2]; rfl)) ?_;refine Za rfl (by omega) ?_;refine Zv rfl ?_;refine GT_S rfl (V_indexArr rfl rfl rfl Tryz.underlying140 sz_138 (kk := n) rfl hn51) ?_;refine GT_S rfl (V_indexArr rfl rfl rfl Tryz.underlying138 sz_2 (kk := k) rfl (by omega)) ?_;refine GT_storeOwnQ (enc := eI) (q := n * 51 + k) (xx := ch n k) rfl rfl rfl rfl rfl rfl (by rw [ch_cast (n := n) (k := k) (by omega) hk1]; rfl) sz_2 hO2 eI_len eI_one (by omega) (by omega) (by decide) (fun _ _ => GR_nil) (fun I3 hO3 => ?_);refine GT_nil ?_;refine GE_inBlock ?_;refine Zs [1, 2, 3, 5] rfl ?_
          rw [trT_set hn51 (by omega)] at hO3
          refine ZP 3 [2] rfl ?_;refine Zv rfl ?_;refine Za rfl (by omega) ?_;refine Zw rfl ?_;refine GT_nil ?_
          exact GE_to (ih2 (k + 1, I3) ⟨by dsimp only; omega, by dsimp only; omega, hO3⟩ (by dsimp only; omega)) ⟨rfl, rfl, rfl, rfl, trivial⟩ HS.last
        · obtain rfl : k = n + 1 := (by omega)
          refine GE_exit rfl ?_;refine GE_inBlock ?_;refine Zs [1, 5] rfl ?_;refine ZP 2 [1] rfl ?_;refine Za rfl (by omega) ?_;refine Zw rfl ?_;refine GT_nil ?_
          exact GE_to (ih (n + 1, I2) ⟨by dsimp only; omega, by rw [← trT_row]; exact hO2⟩ (by dsimp only; omega)) ⟨rfl, rfl, trivial⟩ HS.last
      · exact ⟨Nat.le_refl _, by omega, hO1⟩
    · obtain rfl : n = 51 := (by omega)
      refine GE_exit rfl ?_;refine Zp 2 [] rfl ?_;refine Zr 2 rfl ?_;refine GT_nil ?_;refine GE_ret Tryz.func35 rfl (fun w hw => ?_);refine ⟨b4, trivial, rfl, ?_⟩;have hI := hO.full hl.symm;rw [hI] at hw;exact hw
  · exact ⟨Nat.zero_le _, Own.lit (by rw [trT_zero, flat_I, List.map_replicate]) (by rw [trT_len]) (by decide)⟩
end Go.Proofs.YtncleikbggjmjaaGreatDoor.Lis
