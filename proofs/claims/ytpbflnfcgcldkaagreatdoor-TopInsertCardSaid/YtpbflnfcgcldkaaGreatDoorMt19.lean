/- Texts of this proof, one behind the other: UfO, TaO, Ta5, Ta6, Ta7. -/
import Derived.Test.YtpbflnfcgcldkaaGreatDoorMt10
import Derived.Test.YtpbflnfcgcldkaaGreatDoorMtFp1
import Derived.Test.YtpbflnfcgcldkaaGreatDoorRows
import Derived.Test.YtpbflnfcgcldkaaGreatDoorMt18
import Derived.LaidMore
import Derived.HandedShaped
import Derived.Lib.LaidTab
import Derived.Stop.LaidErr
import Derived.Stop.Joined
import Derived.Test.YtpbflnfcgcldkaaGreatDoorMt15
import Derived.Test.YtpbflnfcgcldkaaGreatDoorMt17
import Derived.Test.YtpbflnfcgcldkaaGreatDoorMt11
import Derived.Test.YtpbflnfcgcldkaaGreatDoorMt16
/- What comes in to TopPocketed: formats, pairs, the table of folds. -/
namespace Go.Proofs.YtpbflnfcgcldkaaGreatDoor
open Go.Sx Go.RowKit Go.WideShapes Go.Lib
theorem own : ownKnob Tryz.prog.godebug = none := by kernel_rfl
theorem laidOut : laidOutB Tryz.prog = true := facts_laid
theorem ce_str : Tryz.prog.cellsOf 9 = 1 := by kernel_rfl
section
variable {W : World}
end
/-! ### the table of folds -/
theorem cells_of_tab2 {H : Type} {enc : TypeId × Value → H} {P : Program} {w : World} {base : Nat} {sp : Nat → Bool} {held : Bool} {fuel : Nat} {t e i : TypeId} {n m : Nat} {k : IntKind} {cs : List Value} {zss : List (List Int)} {p : List MemPlace}
    (ht : P.underlying t = some (.array n e)) (he : P.underlying e = some (.array m i)) (hi : P.underlying i = some (.int k)) (hci : P.cellsOf i = 1) (hce : P.cellsOf e = m) (hct : P.cellsOf t = n * m)
    (h : DataW.trod enc P w base sp held fuel t cs = some (.agg (zss.map (tabData k)), p)) : cs.length = n * m ∧ ∀ j, j < n → (cs.drop (j * m)).take m = (zss.getD j []).map fun z => Value.int k z := by
  cases fuel with
  | zero => simp [DataW.trod] at h
  | succ fuel =>
    simp only [DataW.trod, ht, hce, hct] at h
    split at h
    · rename_i hl
      obtain ⟨xs, hm, hx⟩ := Option.map_eq_some_iff.1 h
      have hxs : xs.map (·.1) = zss.map (tabData (H := H) k) := by simpa using congrArg Prod.fst hx
      refine ⟨hl, fun j hj => ?_⟩
      obtain ⟨b, hb, hf⟩ := mapM_at hm j j (by simp [hj])
      have h2 : (xs.map (·.1))[j]? = some b.1 := by simp [hb]
      rw [hxs, List.getElem?_map] at h2
      cases hz : zss[j]? with
      | none => rw [hz] at h2; cases h2
      | some zs =>
        rw [hz] at h2
        have hb1 : b = (tabData k zs, b.2) := by
          have := Option.some.inj h2
          exact Prod.ext this.symm rfl
        rw [hb1] at hf
        have := cells_of_tab he hi hci hce hf
        rw [this]; simp [List.getD, hz]
    · cases h
set_option maxRecDepth 100000 in
theorem grows_of {W : World} {r : List (String × DataW Unit)} (h : laidMet Tryz.prog (("deadwax/sleeve.grows", Rows.laid_deadwax_sleeve_grows) :: r) W) : Slv.GrowsAt W := by
  obtain ⟨ps, ⟨g', t', cs, fuel, p, q, hg', ht', hvar, hd, _, _⟩, _⟩ := h
  obtain rfl := Option.some.inj ((show Tryz.prog.globalNamed "deadwax/sleeve.grows" = some 1 by kernel_rfl).symm.trans hg')
  obtain rfl := Option.some.inj ((show (Tryz.prog.globals[1]?).map (·.type) = some 328 by kernel_rfl).symm.trans ht')
  obtain ⟨hl, hc⟩ := cells_of_tab2 (zss := [[0, 0], [1, 2], [2, 1]]) Tryz.underlying328 Tryz.underlying327 Tryz.underlying3 (by kernel_rfl) (by kernel_rfl) (by kernel_rfl) hd
  have h0 := hc 0 (by decide)
  have h1 := hc 1 (by decide)
  have h2 := hc 2 (by decide)
  intro j v hv
  have hcell := World.var?_cell hg' hvar j
  rw [hcell, ← Array.getElem?_toList]
  generalize cs.toList = l at *
  match l, hl with
  | [c0, c1, c2, c3, c4, c5], _ =>
    simp only [Nat.zero_mul, Nat.one_mul, List.drop_zero, List.take_succ_cons, List.take_zero, List.getD, List.getElem?_cons_zero, Option.getD_some, List.map_cons, List.map_nil, List.cons.injEq, and_true] at h0
    simp at h1 h2
    obtain ⟨rfl, rfl⟩ := h0
    obtain ⟨rfl, rfl⟩ := h1
    obtain ⟨rfl, rfl⟩ := h2
    exact hv
end Go.Proofs.YtpbflnfcgcldkaaGreatDoor
/- What comes in to the laws over takes: samples, takes, parts. -/
namespace Go.Proofs.YtpbflnfcgcldkaaGreatDoor.Take
open Go.Sx Go.RowKit Go.ChangeShapes Go.WideShapes
theorem own : ownKnob Tryz.prog.godebug = none := by kernel_rfl
theorem laidOut : laidOutB Tryz.prog = true := facts_laid
theorem ce_str : Tryz.prog.cellsOf 9 = 1 := by kernel_rfl
theorem ce_sams : Tryz.prog.cellsOf 228 = 1 := by kernel_rfl
theorem ce_take : Tryz.prog.cellsOf 230 = 2 := by kernel_rfl
section
variable {W : World}
set_option maxRecDepth 100000 in
theorem open_sams {cs : List Value} (h : Dat Tryz.prog W 228 cs) : ∃ A l c, cs = [.slice A (List.length l) c] ∧ RdL W 2 eSam A l ∧ l.length ≤ c ∧ c ≤ maxLen ∧ ∀ x ∈ l, x.wf := by
  obtain ⟨A, l, c, h1, h2, hg, h3, h4⟩ := Dat.slice (enc := eSam) (G := Sam.wf) 2 Tryz.underlying228 (by kernel_rfl) (fun cs h => by
    obtain ⟨zs, hl, hcs, hw⟩ := Dat.intStruct (k := .i64) Tryz.underlying421 (by kernel_rfl) (by kernel_rfl) h
    match zs, hl, hcs, hw with
    | [z0, z1], _, hcs, hw => exact ⟨⟨z0, z1⟩, ⟨I64.of (hw z0 (by simp)), I64.of (hw z1 (by simp))⟩, hcs⟩) eSam_len h
  exact ⟨A, l, c, h1, h2, h3, h4, hg⟩
theorem prt_of {zs : List Int} (hl : zs.length = 7) (hw : ∀ z ∈ zs, (Lit.int .i64 z).wf = true) : ∃ x : Prt, x.wf ∧ zs.map (fun z => Value.int .i64 z) = ePrt x := by
  match zs, hl, hw with
  | [z0, z1, z2, z3, z4, z5, z6], _, hw => exact ⟨⟨z0, z1, z2, z3, z4, z5, z6⟩, ⟨⟨I64.of (hw z0 (by simp)), I64.of (hw z1 (by simp)), I64.of (hw z2 (by simp))⟩, I64.of (hw z3 (by simp)), I64.of (hw z4 (by simp)), I64.of (hw z5 (by simp)), I64.of (hw z6 (by simp))⟩, rfl⟩
set_option maxRecDepth 100000 in
theorem open_prts {cs : List Value} (h : Dat Tryz.prog W 108 cs) : ∃ A l c, cs = [.slice A (List.length l) c] ∧ RdL W 7 ePrt A l ∧ l.length ≤ c ∧ c ≤ maxLen ∧ ∀ x ∈ l, x.wf := by
  obtain ⟨A, l, c, h1, h2, hg, h3, h4⟩ := Dat.slice (enc := ePrt) (G := Prt.wf) 7 Tryz.underlying108 (by kernel_rfl) (fun cs h => by
    obtain ⟨zs, hl, hcs, hw⟩ := Dat.intStruct (k := .i64) Tryz.underlying124 (by kernel_rfl) (by kernel_rfl) h
    obtain ⟨x, hx, he⟩ := prt_of hl hw
    exact ⟨x, hx, hcs.trans he⟩) ePrt_len h
  exact ⟨A, l, c, h1, h2, h3, h4, hg⟩
set_option maxRecDepth 100000 in
theorem open_tk {cs : List Value} (h : Dat Tryz.prog W 230 cs) : ∃ x : Tk, (RdL W 2 eSam x.A x.data ∧ x.wf) ∧ cs = eTk x := by
  obtain ⟨hl, hf⟩ := Dat.struct Tryz.underlying230 h
  rw [ce_take] at hl
  match cs, hl with
  | [a0, a1], _ =>
    have g0 : Dat Tryz.prog W 9 (([a0, a1].drop 0).take (Tryz.prog.cellsOf 9)) := hf 0 _ rfl
    have g1 : Dat Tryz.prog W 228 (([a0, a1].drop 1).take (Tryz.prog.cellsOf 228)) := hf 1 _ rfl
    rw [ce_str] at g0
    rw [ce_sams] at g1
    obtain ⟨s, e0, hs⟩ := Dat.string Tryz.underlying9 g0
    obtain ⟨A, l, c, e1, hr, h1, h2, h3⟩ := open_sams g1
    obtain rfl : a0 = .string s := (List.cons.inj e0).1
    obtain rfl : a1 = .slice A l.length c := (List.cons.inj e1).1
    exact ⟨⟨s, A, c, l⟩, ⟨hr, hs, h1, h3⟩, rfl⟩
set_option maxRecDepth 100000 in
theorem open_takes {cs : List Value} (h : Dat Tryz.prog W 107 cs) : ∃ A l c, cs = [.slice A (List.length l) c] ∧ Tks W A l ∧ l.length ≤ c ∧ c ≤ maxLen := by
  obtain ⟨A, l, c, h1, h2, hg, h3, h4⟩ := Dat.slice (enc := eTk) (G := fun x => RdL W 2 eSam x.A x.data ∧ x.wf) 2 Tryz.underlying107 (by kernel_rfl) (fun cs h => open_tk h) eTk_len h
  exact ⟨A, l, c, h1, ⟨h2, hg⟩, h3, h4⟩
end
end Go.Proofs.YtpbflnfcgcldkaaGreatDoor.Take
/- Silences, peaks and energies; and the document's; walked. -/
namespace Go.Proofs.YtpbflnfcgcldkaaGreatDoor.Take
open Go.Sx Go.Proofs Go.RowKit
section
variable {w : World} {A : Option Addr} {c : Nat} {s : List Sam}
end
end Go.Proofs.YtpbflnfcgcldkaaGreatDoor.Take
/- Peaks and energies; the document's measures; walked. -/
namespace Go.Proofs.YtpbflnfcgcldkaaGreatDoor.Take
open Go.Sx Go.Proofs Go.RowKit
section
variable {w : World} {A : Option Addr} {c : Nat} {s : List Sam}
theorem wrap_neg {n : Int} (h : I64 n) : (n = -9223372036854775808 ∧ IntKind.i64.wrap (0 - n) = -9223372036854775808) ∨ (n ≠ -9223372036854775808 ∧ IntKind.i64.wrap (0 - n) = -n) := by
  unfold I64 at h
  by_cases e : n = -9223372036854775808
  · subst e; exact .inl ⟨rfl, by decide⟩
  · exact .inr ⟨e, by rw [wrap_i64 (by omega)]; omega⟩
theorem C_rAmountW {n : Int} : Con0 Tryz.prog 288 [I n] w (I (max n (IntKind.i64.wrap (0 - n)))) := by
  refine Ret_of (vs := [_]) hm none' Tryz.func288 rfl Tryz.ntmps288 rfl ?_
  dsimp only [slotsOf]
  refine GE_seq ?_;refine GE_plain (.st 0 .nil) rfl ?_;refine GT_st rfl rfl rfl rfl (V_assign rfl rfl) ?_;refine GT_nil ?_;refine GE_seq ?_;refine GE_plain (.st 0 (.st 1 (.st 2 (.st 3 (.st 4 .nil))))) rfl ?_;refine GT_st rfl rfl rfl rfl (V_move rfl rfl) ?_;refine GT_st rfl rfl rfl rfl (V_move rfl rfl) ?_;refine GT_st rfl rfl rfl rfl (V_neg rfl rfl (rfl)) ?_;refine GT_st rfl rfl rfl rfl (V_max rfl rfl rfl) ?_;refine GT_st rfl rfl rfl rfl (V_assign rfl rfl) ?_;refine GT_nil ?_;refine GE_ret Tryz.func288 rfl (fun w hw => ⟨?_, hw.nil⟩)
  rfl
theorem C_rValid {x : Sam} (hx : x.wf) : Con0 Tryz.prog 247 [.agg #[I x.l, I x.r]] w (.bool x.ok) := by
  have hd : ∀ q : Bool, (((-32767 ≤ x.l ∧ x.l ≤ 32767) ∧ (-32767 ≤ x.r ∧ x.r ≤ 32767)) ↔ q = true) → Value.bool q = Value.bool x.ok := fun q hq => congrArg Value.bool (by rw [Bool.eq_iff_iff, Sam.ok_iff, hq])
  have n1 := wrap_neg hx.1
  have n2 := wrap_neg hx.2
  refine Ret_of (vs := [_]) hm none' Tryz.func247 rfl Tryz.ntmps247 rfl ?_
  dsimp only [slotsOf]
  refine GE_seq ?_;refine GE_plain (.ld 0 [] (.st 1 .nil)) rfl ?_;refine GT_box (z := [_, _]) rfl rfl rfl rfl rfl rfl rfl (fun _ => GR_nil) (fun b1 => ?_)
  refine GT_st rfl rfl rfl rfl (V_assign rfl rfl) ?_;refine GT_nil ?_;refine GE_seq ?_;refine GE_plain (.st 0 (.st 1 (.ld 2 [] (.st 3 (.st 4 (.st 5 (.st 6 (.ld 7 [] (.st 8 (.st 9 (.st 10 (.st 11 (.st 12 (.st 13 (.st 14 (.st 15 (.st 16 (.st 17 (.st 18 (.st 19 (.st 20 .nil))))))))))))))))))))) rfl ?_;refine GT_st rfl rfl rfl rfl (V_field rfl rfl fo_421_0) ?_;refine GT_st rfl rfl rfl rfl (V_load rfl rfl ag_2 (CellAt.item rfl)) ?_;refine GT_call0 rfl rfl rfl rfl rfl rfl rfl rfl rn_288 (fun w hw => C_rAmountW) (GR_nil) ?_;refine GT_st rfl rfl rfl rfl (V_leq rfl rfl rfl) ?_;refine GT_st rfl rfl rfl rfl (V_move rfl rfl) ?_;refine GT_split (d := 7) rfl (fun h1 => ?_) (fun h1 => ?_)
  · refine GT_st_g rfl rfl rfl rfl rfl rfl rfl (V_field rfl rfl fo_421_1) ?_;refine GT_st_g rfl rfl rfl rfl rfl rfl rfl (V_load rfl rfl ag_2 (CellAt.item rfl)) ?_;refine GT_call0_g rfl rfl rfl rfl rfl rfl rfl rfl rfl rfl rfl rn_288 (fun w hw => C_rAmountW) (GR_nil) ?_;refine GT_st_g rfl rfl rfl rfl rfl rfl rfl (V_leq rfl rfl rfl) ?_;refine GT_st rfl rfl rfl rfl (V_pick_t rfl rfl rfl) ?_;refine GT_st rfl rfl rfl rfl (V_move rfl rfl) ?_;refine GT_split (d := 13) rfl (fun h2 => ?_) (fun h2 => ?_)
    · refine GT_st_g rfl rfl rfl rfl rfl rfl rfl (V_field rfl rfl fo_421_0) ?_;refine GT_st_g rfl rfl rfl rfl rfl rfl rfl (V_load rfl rfl ag_2 (CellAt.item rfl)) ?_;refine GT_st_g rfl rfl rfl rfl rfl rfl rfl (V_gtr rfl rfl rfl) ?_;refine GT_st rfl rfl rfl rfl (V_pick_t rfl rfl rfl) ?_;refine GT_st rfl rfl rfl rfl (V_move rfl rfl) ?_;refine GT_split (d := 18) rfl (fun h3 => ?_) (fun h3 => ?_)
      · refine GT_st_g rfl rfl rfl rfl rfl rfl rfl (V_field rfl rfl fo_421_1) ?_;refine GT_st_g rfl rfl rfl rfl rfl rfl rfl (V_load rfl rfl ag_2 (CellAt.item rfl)) ?_;refine GT_st_g rfl rfl rfl rfl rfl rfl rfl (V_gtr rfl rfl rfl) ?_;refine GT_st rfl rfl rfl rfl (V_pick_t rfl rfl rfl) ?_;refine GT_st rfl rfl rfl rfl (V_assign rfl rfl) ?_;refine GT_nil ?_;refine GE_ret Tryz.func247 rfl (fun w hw => ⟨?_, hw.nil⟩)
        refine hd _ ?_; generalize IntKind.i64.wrap (0 - x.l) = z1 at *; generalize IntKind.i64.wrap (0 - x.r) = z2 at *; simp only [decide_eq_true_iff, Bool.false_eq_true, iff_false]; omega
      · refine GT_skip rfl rfl rfl rfl rfl (by decide) rfl rfl ?_;refine GT_skip rfl rfl rfl rfl rfl (by decide) rfl rfl ?_;refine GT_skip rfl rfl rfl rfl rfl (by decide) rfl rfl ?_;refine GT_st rfl rfl rfl rfl (V_pick_f rfl rfl rfl) ?_;refine GT_st rfl rfl rfl rfl (V_assign rfl rfl) ?_;refine GT_nil ?_;refine GE_ret Tryz.func247 rfl (fun w hw => ⟨?_, hw.nil⟩)
        refine hd _ ?_; generalize IntKind.i64.wrap (0 - x.l) = z1 at *; generalize IntKind.i64.wrap (0 - x.r) = z2 at *; simp only [decide_eq_true_iff, Bool.false_eq_true, iff_false]; omega
    · refine GT_skip rfl rfl rfl rfl rfl (by decide) rfl rfl ?_;refine GT_skip rfl rfl rfl rfl rfl (by decide) rfl rfl ?_;refine GT_skip rfl rfl rfl rfl rfl (by decide) rfl rfl ?_;refine GT_st rfl rfl rfl rfl (V_pick_f rfl rfl rfl) ?_;refine GT_st rfl rfl rfl rfl (V_move rfl rfl) ?_;refine GT_skip rfl rfl rfl rfl rfl (by decide) rfl rfl ?_;refine GT_skip rfl rfl rfl rfl rfl (by decide) rfl rfl ?_;refine GT_skip rfl rfl rfl rfl rfl (by decide) rfl rfl ?_;refine GT_st rfl rfl rfl rfl (V_pick_f rfl rfl rfl) ?_;refine GT_st rfl rfl rfl rfl (V_assign rfl rfl) ?_;refine GT_nil ?_;refine GE_ret Tryz.func247 rfl (fun w hw => ⟨?_, hw.nil⟩)
      refine hd _ ?_; generalize IntKind.i64.wrap (0 - x.l) = z1 at *; generalize IntKind.i64.wrap (0 - x.r) = z2 at *; simp only [decide_eq_true_iff, Bool.false_eq_true, iff_false]; omega
  · refine GT_skip rfl rfl rfl rfl rfl (by decide) rfl rfl ?_;refine GT_skip rfl rfl rfl rfl rfl (by decide) rfl rfl ?_;refine GT_skip_ld rfl rfl rfl rfl rfl (by decide) rfl rfl rfl (GR_nil) ?_;refine GT_skip rfl rfl rfl rfl rfl (by decide) rfl rfl ?_;refine GT_st rfl rfl rfl rfl (V_pick_f rfl rfl rfl) ?_;refine GT_st rfl rfl rfl rfl (V_move rfl rfl) ?_;refine GT_skip rfl rfl rfl rfl rfl (by decide) rfl rfl ?_;refine GT_skip rfl rfl rfl rfl rfl (by decide) rfl rfl ?_;refine GT_skip rfl rfl rfl rfl rfl (by decide) rfl rfl ?_;refine GT_st rfl rfl rfl rfl (V_pick_f rfl rfl rfl) ?_;refine GT_st rfl rfl rfl rfl (V_move rfl rfl) ?_;refine GT_skip rfl rfl rfl rfl rfl (by decide) rfl rfl ?_;refine GT_skip rfl rfl rfl rfl rfl (by decide) rfl rfl ?_;refine GT_skip rfl rfl rfl rfl rfl (by decide) rfl rfl ?_;refine GT_st rfl rfl rfl rfl (V_pick_f rfl rfl rfl) ?_;refine GT_st rfl rfl rfl rfl (V_assign rfl rfl) ?_;refine GT_nil ?_;refine GE_ret Tryz.func247 rfl (fun w hw => ⟨?_, hw.nil⟩)
    refine hd _ ?_; generalize IntKind.i64.wrap (0 - x.l) = z1 at *; generalize IntKind.i64.wrap (0 - x.r) = z2 at *; simp only [decide_eq_true_iff, Bool.false_eq_true, iff_false]; omega
theorem C_rCheckSamples (h : RdL w 2 eSam A s) (hs : ∀ x ∈ s, x.wf) : Con0 Tryz.prog 208 [.slice A s.length c] w (I (sErr s)) := by
  refine Ret_of (vs := [_]) hm none' Tryz.func208 rfl Tryz.ntmps208 rfl ?_
  dsimp only [slotsOf]
  refine GE_seq ?_;refine GE_plain (.st 0 .nil) rfl ?_;refine GT_st rfl rfl rfl rfl (V_assign rfl rfl) ?_;refine GT_nil ?_;refine GE_seq ?_;refine GE_seq ?_;refine GE_plain (.st 0 (.st 1 (.st 2 .nil))) rfl ?_;refine GT_st rfl rfl rfl rfl (V_move rfl rfl) ?_;refine GT_st rfl rfl rfl rfl (V_len rfl Tryz.underlying228 rfl) ?_;refine GT_st rfl rfl rfl rfl (V_gtr rfl rfl rfl) ?_;refine GT_nil ?_;refine GE_cond rfl (fun h1 => ?_) (fun h1 => ?_)
  · refine GE_seq ?_;refine GE_slots (L' := []) trivial ?_;refine GE_plain (.st 0 .nil) rfl ?_;refine GT_st rfl rfl rfl rfl (V_assign rfl rfl) ?_;refine GT_nil ?_;refine GE_ret Tryz.func208 rfl (fun w hw => ⟨?_, hw.nil⟩)
    rw [sErr, if_pos (by omega)]
  · refine GE_skip ?_;refine GE_seq ?_;refine GE_seq ?_;refine GE_slots (L' := [(0, _)]) ⟨rfl, trivial⟩ ?_;refine GE_plain (.st 0 .nil) rfl ?_;refine GT_st rfl rfl rfl rfl (V_assign rfl rfl) ?_;refine GT_nil ?_;refine GE_block ?_;refine GE_to (GE_loop (ι := Nat) (fun k => s.length - k) (fun k => [(0, .slice A s.length c), (3, I k)]) (fun k => []) (fun k => k ≤ s.length ∧ ∀ i, i < k → Sam.ok (s.getD i default) = true) ?_ 0 ?_) ⟨rfl, rfl, trivial⟩ HS.nil
    · rintro k ⟨hk, hall⟩ ih
      refine GE_seq ?_;refine GE_seq ?_;refine GE_plain (.st 0 (.st 1 (.st 2 (.st 3 .nil)))) rfl ?_;refine GT_st rfl rfl rfl rfl (V_move rfl rfl) ?_;refine GT_st rfl rfl rfl rfl (V_move rfl rfl) ?_;refine GT_st rfl rfl rfl rfl (V_len rfl Tryz.underlying228 rfl) ?_;refine GT_st rfl rfl rfl rfl (V_lss rfl rfl rfl) ?_;refine GT_nil ?_;refine GE_cond rfl (fun h2 => ?_) (fun h2 => ?_)
      · have hkl : k < s.length := (by omega)
        refine GE_skip ?_;refine GE_seq ?_;refine GE_block ?_;refine GE_seq ?_;refine GE_slots (L' := [(0, _), (3, _)]) ⟨rfl, rfl, trivial⟩ ?_;refine GE_plain (.st 0 (.st 1 (.st 2 (.st 3 (.ld 4 [] (.st 5 .nil)))))) rfl ?_;refine GT_st rfl rfl rfl rfl (V_move rfl rfl) ?_;refine GT_st rfl rfl rfl rfl (V_move rfl rfl) ?_;refine GT_st rfl rfl rfl rfl (V_index rfl rfl rfl Tryz.underlying228 sz_421 (k := k) rfl hkl (h.isSome hkl)) ?_;refine GT_st rfl rfl rfl rfl (V_loadN (vs := [_, _]) rfl rfl ag_421 sz_421 rfl (h.ats noM hkl)) ?_;refine GT_call0 rfl rfl rfl rfl rfl rfl rfl rfl rn_247 (fun w hw => C_rValid (hs _ (getD_mem hkl))) (GR_nil) ?_;refine GT_st rfl rfl rfl rfl (V_notB rfl rfl) ?_;refine GT_nil ?_;refine GE_condNotB rfl (fun h3 => ?_) (fun h3 => ?_)
        · refine GE_seq ?_;refine GE_slots (L' := []) trivial ?_;refine GE_plain (.st 0 .nil) rfl ?_;refine GT_st rfl rfl rfl rfl (V_assign rfl rfl) ?_;refine GT_nil ?_;refine GE_ret Tryz.func208 rfl (fun w hw => ⟨?_, hw.nil⟩)
          rw [sErr, if_neg (by omega), if_neg (by rw [all_split hkl h3]; decide)]
        · refine GE_skip ?_;refine GE_inBlock ?_;refine GE_slots (L' := [(0, _), (3, _)]) ⟨rfl, rfl, trivial⟩ ?_;refine GE_plain (.st 0 (.st 1 (.ld 2 [] .nil))) rfl ?_;refine GT_st rfl rfl rfl rfl (V_move rfl rfl) ?_;refine GT_st rfl rfl rfl rfl (V_add rfl rfl rfl (wrap_i64 (by omega))) ?_;refine GT_ldv rfl rfl rfl rfl rfl (V_assign rfl rfl) (GR_nil) ?_;refine GT_nil ?_
          exact GE_to (ih (k + 1) ⟨by omega, fun i hi => by rcases Nat.lt_or_ge i k with r | r; exact hall i r; rw [show i = k by omega]; exact h3⟩ (by omega)) ⟨rfl, rfl, trivial⟩ HS.nil
      · refine GE_exit rfl ?_;refine GE_seq ?_;refine GE_slots (L' := []) trivial ?_;refine GE_plain (.st 0 .nil) rfl ?_;refine GT_st rfl rfl rfl rfl (V_assign rfl rfl) ?_;refine GT_nil ?_;refine GE_ret Tryz.func208 rfl (fun w hw => ⟨?_, hw.nil⟩)
        rw [sErr, if_neg (by omega), if_pos (all_getD.2 fun i hi => hall i (by omega))]
    · exact ⟨Nat.zero_le _, fun i hi => absurd hi (Nat.not_lt_zero _)⟩
end
end Go.Proofs.YtpbflnfcgcldkaaGreatDoor.Take
/- What the laws over takes use: equal lists, greatness, the example; walked. -/
namespace Go.Proofs.YtpbflnfcgcldkaaGreatDoor.Take
open Go.Sx Go.Proofs Go.RowKit
theorem any_of {α : Type} [Inhabited α] {l : List α} {f : α → Bool} {k : Nat} (hk : k < l.length) (h : f (l.getD k default) = true) : l.any f = true := by
  rw [List.any_eq_true]; exact ⟨_, getD_mem hk, h⟩
section
variable {w : World} {A B : Option Addr} {c c2 : Nat}
end
end Go.Proofs.YtpbflnfcgcldkaaGreatDoor.Take
