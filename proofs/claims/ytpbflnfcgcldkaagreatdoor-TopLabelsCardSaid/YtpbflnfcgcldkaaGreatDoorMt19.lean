/- Texts of this proof, one behind the other: UfO, Vl1, Vl2, Vl3, Vl4, Vl5, Vn1, Vm1, Vm2, Vm3, Vm4, Vm5, Vn2, VnV. -/
import Derived.Test.YtpbflnfcgcldkaaGreatDoorMt10
import Derived.Test.YtpbflnfcgcldkaaGreatDoorMtFp1
import Derived.Test.YtpbflnfcgcldkaaGreatDoorRows
import Derived.Test.YtpbflnfcgcldkaaGreatDoorMt18
import Derived.LaidMore
import Derived.HandedShaped
import Derived.Lib.LaidTab
import Derived.Stop.LaidErr
import Derived.Stop.Joined
import Derived.Test.YtpbflnfcgcldkaaGreatDoorMt13
import Derived.Test.YtpbflnfcgcldkaaGreatDoorMt16
import Derived.Test.YtpbflnfcgcldkaaGreatDoorMt11
import Derived.Test.YtpbflnfcgcldkaaGreatDoorMt15
/- What comes in to TopPocketed: formats, pairs, the table of folds. -/
namespace Go.Proofs.YtpbflnfcgcldkaaGreatDoor
open Go.Sx Go.RowKit Go.WideShapes Go.Lib
theorem own : ownKnob Tryz.prog.godebug = none := by kernel_rfl
theorem laidOut : laidOutB Tryz.prog = true := facts_laid
theorem u8_of {x : Int} (h : (Lit.int .u8 x).wf = true) : 0 ≤ x ∧ x ≤ 255 := Take.u8_of h
theorem u16_of {x : Int} (h : (Lit.int .u16 x).wf = true) : 0 ≤ x ∧ x ≤ 65535 := Take.u16_of h
theorem ce_i64 : Tryz.prog.cellsOf 2 = 1 := by kernel_rfl
theorem ce_str : Tryz.prog.cellsOf 9 = 1 := by kernel_rfl
theorem ce_fmt : Tryz.prog.cellsOf 77 = 8 := by kernel_rfl
section
variable {W : World}
theorem one_i64 {cs ds : List Value} {q : Nat} (h : Dat Tryz.prog W 2 ((cs.drop q).take (Tryz.prog.cellsOf 2))) (hd : (cs.drop q).take 1 = ds) : ∃ z : Int, ds = [I z] ∧ (Lit.int .i64 z).wf = true := by
  rw [ce_i64, hd] at h
  obtain ⟨z, e, hw⟩ := Dat.int Tryz.underlying2 h
  exact ⟨z, e, hw⟩
set_option maxRecDepth 100000 in
theorem open_fmtD {cs : List Value} (h : Dat Tryz.prog W 77 cs) : ∃ f : Side.Fmt, cs = f.cells ∧ f.nm.size ≤ maxLen := by
  obtain ⟨hl, hf⟩ := Dat.struct Tryz.underlying77 h
  rw [ce_fmt] at hl
  match cs, hl with
  | [a0, a1, a2, a3, a4, a5, a6, a7], _ =>
    have g0 : Dat Tryz.prog W 9 (([a0, a1, a2, a3, a4, a5, a6, a7].drop 0).take (Tryz.prog.cellsOf 9)) := hf 0 _ rfl
    rw [ce_str] at g0
    obtain ⟨s, e0, hs⟩ := Dat.string Tryz.underlying9 g0
    obtain rfl : a0 = .string s := (List.cons.inj e0).1
    obtain ⟨z1, e1, _⟩ := one_i64 (q := 1) (hf 1 _ rfl) rfl
    obtain ⟨z2, e2, _⟩ := one_i64 (q := 2) (hf 2 _ rfl) rfl
    obtain ⟨z3, e3, _⟩ := one_i64 (q := 3) (hf 3 _ rfl) rfl
    obtain ⟨z4, e4, _⟩ := one_i64 (q := 4) (hf 4 _ rfl) rfl
    obtain ⟨z5, e5, _⟩ := one_i64 (q := 5) (hf 5 _ rfl) rfl
    obtain ⟨z6, e6, _⟩ := one_i64 (q := 6) (hf 6 _ rfl) rfl
    obtain ⟨z7, e7, _⟩ := one_i64 (q := 7) (hf 7 _ rfl) rfl
    obtain rfl : a1 = I z1 := (List.cons.inj e1).1
    obtain rfl : a2 = I z2 := (List.cons.inj e2).1
    obtain rfl : a3 = I z3 := (List.cons.inj e3).1
    obtain rfl : a4 = I z4 := (List.cons.inj e4).1
    obtain rfl : a5 = I z5 := (List.cons.inj e5).1
    obtain rfl : a6 = I z6 := (List.cons.inj e6).1
    obtain rfl : a7 = I z7 := (List.cons.inj e7).1
    exact ⟨⟨s, z1, z2, z3, z4, z5, z6, z7⟩, rfl, hs⟩
end
/-! ### the table of folds -/
theorem cells_of_tab2 {H : Type} {enc : TypeId × Value → H} {P : Program} {w : World} {base : Nat} {sp : Nat → Bool} {held : Bool} {fuel : Nat} {t e i : TypeId} {n m : Nat} {k : IntKind} {cs : List Value} {zss : List (List Int)} {p : List MemPlace}
    (ht : P.underlying t = some (.array n e)) (he : P.underlying e = some (.array m i)) (hi : P.underlying i = some (.int k)) (hci : P.cellsOf i = 1) (hce : P.cellsOf e = m) (hct : P.cellsOf t = n * m)
    (h : DataW.trod enc P w base sp held fuel t cs = some (.agg (zss.map (tabData k)), p)) : cs.length = n * m ∧ ∀ j, j < n → (cs.drop (j * m)).take m = (zss.getD j []).map fun z => Value.int k z := by
  cases fuel with
  | zero => simp [DataW.trod] at h
  | succ fuel =>
    simp only [DataW.trod, ht, hce, hct] at h
    split at h
    · rename_i hl
      obtain ⟨xs, hm, hx⟩ := Option.map_eq_some_iff.1 h
      have hxs : xs.map (·.1) = zss.map (tabData (H := H) k) := by simpa using congrArg Prod.fst hx
      refine ⟨hl, fun j hj => ?_⟩
      obtain ⟨b, hb, hf⟩ := mapM_at hm j j (by simp [hj])
      have h2 : (xs.map (·.1))[j]? = some b.1 := by simp [hb]
      rw [hxs, List.getElem?_map] at h2
      cases hz : zss[j]? with
      | none => rw [hz] at h2; cases h2
      | some zs =>
        rw [hz] at h2
        have hb1 : b = (tabData k zs, b.2) := by
          have := Option.some.inj h2
          exact Prod.ext this.symm rfl
        rw [hb1] at hf
        have := cells_of_tab he hi hci hce hf
        rw [this]; simp [List.getD, hz]
    · cases h
set_option maxRecDepth 100000 in
theorem grows_of {W : World} {r : List (String × DataW Unit)} (h : laidMet Tryz.prog (("deadwax/sleeve.grows", Rows.laid_deadwax_sleeve_grows) :: r) W) : Slv.GrowsAt W := by
  obtain ⟨ps, ⟨g', t', cs, fuel, p, q, hg', ht', hvar, hd, _, _⟩, _⟩ := h
  obtain rfl := Option.some.inj ((show Tryz.prog.globalNamed "deadwax/sleeve.grows" = some 1 by kernel_rfl).symm.trans hg')
  obtain rfl := Option.some.inj ((show (Tryz.prog.globals[1]?).map (·.type) = some 328 by kernel_rfl).symm.trans ht')
  obtain ⟨hl, hc⟩ := cells_of_tab2 (zss := [[0, 0], [1, 2], [2, 1]]) Tryz.underlying328 Tryz.underlying327 Tryz.underlying3 (by kernel_rfl) (by kernel_rfl) (by kernel_rfl) hd
  have h0 := hc 0 (by decide)
  have h1 := hc 1 (by decide)
  have h2 := hc 2 (by decide)
  intro j v hv
  have hcell := World.var?_cell hg' hvar j
  rw [hcell, ← Array.getElem?_toList]
  generalize cs.toList = l at *
  match l, hl with
  | [c0, c1, c2, c3, c4, c5], _ =>
    simp only [Nat.zero_mul, Nat.one_mul, List.drop_zero, List.take_succ_cons, List.take_zero, List.getD, List.getElem?_cons_zero, Option.getD_some, List.map_cons, List.map_nil, List.cons.injEq, and_true] at h0
    simp at h1 h2
    obtain ⟨rfl, rfl⟩ := h0
    obtain ⟨rfl, rfl⟩ := h1
    obtain ⟨rfl, rfl⟩ := h2
    exact hv
end Go.Proofs.YtpbflnfcgcldkaaGreatDoor
/- Designs together on plates: what sets of them cost, plain. -/
namespace Go.Proofs.YtpbflnfcgcldkaaGreatDoor.Slv
open Go.Sx Go.Proofs Go.RowKit
def onK (l : List Int) (s : Nat) : Nat → List Int
  | 0 => []
  | k + 1 => if s.testBit k = true then onK l s k ++ [l.getD k default] else onK l s k
def onL (l : List Int) (s : Nat) : List Int := onK l s l.length
theorem onK_len (l : List Int) (s : Nat) : ∀ k, (onK l s k).length ≤ k
  | 0 => Nat.le_refl _
  | k + 1 => by
    have := onK_len l s k
    rw [onK]; split
    · rw [List.length_append, List.length_singleton]; omega
    · omega
theorem onK_mem {l : List Int} {s : Nat} : ∀ {k : Nat}, k ≤ l.length → ∀ x ∈ onK l s k, x ∈ l
  | 0, _, x, h => by simp [onK] at h
  | k + 1, hk, x, h => by
    rw [onK] at h; split at h
    · rcases List.mem_append.1 h with h | h
      · exact onK_mem (by omega) x h
      · rw [List.mem_singleton] at h; subst h; exact Side.getD_memT (by omega)
    · exact onK_mem (by omega) x h
theorem onK_all {l : List Int} : ∀ {k : Nat}, k ≤ l.length → onK l (2 ^ l.length - 1) k = l.take k
  | 0, _ => rfl
  | k + 1, hk => by
    rw [onK, onK_all (by omega), Nat.testBit_two_pow_sub_one, if_pos (by simp; omega), List.take_succ_eq_append_getElem (by omega)]
    simp [List.getD, show k < l.length by omega]
theorem onL_all (l : List Int) : onL l (2 ^ l.length - 1) = l := by rw [onL, onK_all (Nat.le_refl _), List.take_length]
theorem onK_ok {l : List Int} {s k : Nat} (h : CopOk l) (hk : k ≤ l.length) : CopOk (onK l s k) := ⟨by have := onK_len l s k; have := h.1; omega, fun x hx => h.2 x (onK_mem hk x hx)⟩
def RunR (on : List Int) (s : Int) (r : Int × Bool) : Prop := (s < on.length ∧ r = (0, false)) ∨ ((on.length : Int) ≤ s ∧ on = [] ∧ r = (0, true)) ∨ ((on.length : Int) ≤ s ∧ on ≠ [] ∧ r.2 = true ∧ Lst on s r.1)
theorem RunR.uniq {on : List Int} {s : Int} {r r' : Int × Bool} (h : RunR on s r) (h' : RunR on s r') : r = r' := by
  rcases h with ⟨h1, h2⟩ | ⟨h1, h2, h3⟩ | ⟨h1, h2, h3, h4⟩ <;> rcases h' with ⟨g1, g2⟩ | ⟨g1, g2, g3⟩ | ⟨g1, g2, g3, g4⟩
  · rw [h2, g2]
  · omega
  · omega
  · omega
  · rw [h3, g3]
  · exact absurd h2 g2
  · omega
  · exact absurd g2 h2
  · exact Prod.ext (h4.uniq g4) (h3.trans g3.symm)
theorem RunR.bd {on : List Int} {s : Int} {r : Int × Bool} (h : RunR on s r) : 0 ≤ r.1 ∧ r.1 ≤ 1048576 := by
  rcases h with ⟨_, rfl⟩ | ⟨_, _, rfl⟩ | ⟨_, _, _, h⟩
  · decide
  · decide
  · have := h.lo; have := h.hi; omega
def CostR (l : List Int) (s pl : Int) (set : Nat) (c : Int) : Prop := ∃ r : Int × Bool, RunR (onL l set) s r ∧ c = if r.2 = true then r.1 + pl else -1
theorem CostR.uniq {l : List Int} {s pl : Int} {set : Nat} {c c' : Int} (h : CostR l s pl set c) (h' : CostR l s pl set c') : c = c' := by
  obtain ⟨r, h1, rfl⟩ := h
  obtain ⟨r', h2, rfl⟩ := h'
  rw [h1.uniq h2]
theorem CostR.bd {l : List Int} {s pl : Int} {set : Nat} {c : Int} (h : CostR l s pl set c) (hp : 0 ≤ pl ∧ pl ≤ 1048576) : -1 ≤ c ∧ c ≤ 2097152 := by
  obtain ⟨r, h1, rfl⟩ := h
  have := h1.bd
  split <;> omega
def KnR (l : List Int) (s pl : Int) (f : Int → Option Int) : Prop := ∀ k v, f k = some v → ∃ set : Nat, k = set ∧ CostR l s pl set v
theorem KnR.nil {l : List Int} {s pl : Int} : KnR l s pl (fun _ => none) := fun k v h => by cases h
theorem KnR.upd {l : List Int} {s pl c : Int} {f : Int → Option Int} {set : Nat} (h : KnR l s pl f) (hc : CostR l s pl set c) : KnR l s pl (upd f (set : Int) (some c)) := fun k v hv => by
  unfold Go.Sx.upd at hv
  split at hv
  · rename_i e; cases hv; exact ⟨set, e, hc⟩
  · exact h k v hv
structure SumR (l : List Int) (s pl : Int) (sets : List Nat) (r : Int × Bool) : Prop where
  bd : 0 ≤ r.1 ∧ r.1 ≤ 2097152 * sets.length
  one : ∀ x c, sets = [x] → CostR l s pl x c → (0 ≤ c → r = (c, true)) ∧ (c < 0 → r = (0, false))
def full (i : Nat) : List Nat := if i = 0 then [] else [2 ^ i - 1]
def StepR (least least' : Int) : Prop := -1 ≤ least' ∧ least' ≤ 100000000 ∧ (0 ≤ least → 0 ≤ least' ∧ least' ≤ least)
def FirstR (l : List Int) (s pl : Int) (G : List Int) (S : List Nat) (i : Nat) (least least' : Int) : Prop :=
  G = List.replicate i 0 → S = full i → least = -1 → ∀ c, CostR l s pl (2 ^ l.length - 1) c → 0 ≤ c → 0 ≤ least' ∧ least' ≤ c
theorem StepR.refl {x : Int} (h : -1 ≤ x ∧ x ≤ 100000000) : StepR x x := ⟨h.1, h.2, fun h => ⟨h, Int.le_refl _⟩⟩
theorem StepR.trans {x y z : Int} (h : StepR x y) (h' : StepR y z) : StepR x z := ⟨h'.1, h'.2.1, fun h0 => by have := h.2.2 h0; have := h'.2.2 this.1; omega⟩
theorem FirstR.step {l : List Int} {s pl : Int} {G : List Int} {S : List Nat} {i : Nat} {x y z : Int} (h : FirstR l s pl G S i x y) (h' : StepR y z) : FirstR l s pl G S i x z := fun h1 h2 h3 c hc h0 => by
  have := h h1 h2 h3 c hc h0
  have := h'.2.2 this.1
  omega
def SetsOk (S : List Nat) (i : Nat) : Prop := S.length ≤ i ∧ ∀ x ∈ S, x < 2 ^ i
theorem full_snoc {i : Nat} : (full i ++ if i = 0 then [0] else []).set 0 ((full i ++ if i = 0 then [0] else []).getD 0 0 + 2 ^ i) = full (i + 1) := by
  unfold full
  by_cases h : i = 0
  · subst h; rfl
  · rw [if_neg h, if_neg h, if_neg (by omega)]
    have : 1 ≤ 2 ^ i := Nat.one_le_two_pow
    simp
    omega
end Go.Proofs.YtpbflnfcgcldkaaGreatDoor.Slv
/- What sets of designs cost, walked. -/
namespace Go.Proofs.YtpbflnfcgcldkaaGreatDoor.Slv
open Go.Sx Go.Proofs Go.RowKit
open Side (eN eN_len eN_one getD_memT sh_trans)
abbrev kI (z : Int) : Value := I z
theorem keyI : KeyOk Tryz.prog 3 kI := KeyOk.int Tryz.underlying3
abbrev plB (A : Option Addr) (l : List Int) (c : Nat) (s pl : Int) (r : Nat) : Obj := blk [.slice A l.length c, I s, I pl, .map (some r)] 215
section
variable {w w0 : World} {A : Option Addr} {c : Nat} {l : List Int} {s pl : Int} {g r : Nat} {ob : Obj} {f : Int → Option Int} {G : Items}
theorem C_runR {on : List Int} (hr : RdL w 1 eN A on) (hc : CopOk on) (hs : 1 ≤ s ∧ s ≤ 64) : Con Tryz.prog 86 [.slice A on.length c, I s] w (fun y : Int × Bool => RunR on s y) (fun y => .tuple #[I y.1, .bool y.2]) (fun _ => []) := by
  have h8 := hc.1
  by_cases h1 : s < on.length
  · exact (C_run0 (c := c) hr hs ⟨by omega, h1⟩).mono fun v w' ⟨h2, h3⟩ => ⟨(0, false), .inl ⟨h1, rfl⟩, h2, h3⟩
  · by_cases h2 : on = []
    · have h3 : on.length = 0 := by rw [h2]; rfl
      refine Ret_of (vs := [_, _]) hm none' Tryz.func86 rfl Tryz.ntmps86 rfl ?_
      dsimp only [slotsOf]
      refine GE_seq ?_;refine GE_plain (.st 0 (.st 1 .nil)) rfl ?_;refine GT_st rfl rfl rfl rfl (V_assign rfl rfl) ?_;refine GT_st rfl rfl rfl rfl (V_assign rfl rfl) ?_;refine GT_nil ?_;refine GE_seq ?_;refine GE_seq ?_;refine GE_plain (.st 0 (.st 1 (.st 2 (.st 3 .nil)))) rfl ?_;refine GT_st rfl rfl rfl rfl (V_move rfl rfl) ?_;refine GT_st rfl rfl rfl rfl (V_len rfl Tryz.underlying43 rfl) ?_;refine GT_st rfl rfl rfl rfl (V_move rfl rfl) ?_;refine GT_st rfl rfl rfl rfl (V_isF (V_gtr rfl rfl rfl) (by omega)) ?_;refine GT_nil ?_;refine GE_cond_f rfl ?_;refine GE_skip ?_;refine GE_seq ?_;refine GE_seq ?_;refine GE_slots (L' := [(0, _), (1, _)]) ⟨rfl, rfl, trivial⟩ ?_;refine GE_plain (.st 0 (.st 1 (.st 2 .nil))) rfl ?_;refine GT_st rfl rfl rfl rfl (V_move rfl rfl) ?_;refine GT_st rfl rfl rfl rfl (V_len rfl Tryz.underlying43 rfl) ?_;refine GT_st rfl rfl rfl rfl (V_isT (V_eql rfl rfl rfl) (by omega)) ?_;refine GT_nil ?_;refine GE_cond_t rfl ?_;refine GE_seq ?_;refine GE_slots (L' := []) trivial ?_;refine GE_plain (.st 0 (.st 1 .nil)) rfl ?_;refine GT_st rfl rfl rfl rfl (V_assign rfl rfl) ?_;refine GT_st rfl rfl rfl rfl (V_assign rfl rfl) ?_;refine GT_nil ?_;refine GE_ret Tryz.func86 ⟨_, _, rfl, rfl, rfl⟩ (fun w hw => ?_)
      exact ⟨(0, true), .inr (.inl ⟨by omega, h2, rfl⟩), rfl, hw.nil⟩
    · have h3 : 1 ≤ on.length := List.length_pos_iff.2 h2
      exact (C_run (c := c) hr hc hs (by omega) h3).mono fun v w' ⟨n, h4, h5, h6⟩ => ⟨(n, true), .inr (.inr ⟨by omega, h2, rfl, h4⟩), h5, h6⟩
theorem one_bit {set k : Nat} : (((set / 2 ^ k &&& 1 : Nat) : Int) = 1) ↔ set.testBit k = true := by
  rw [test_bit]; split <;> simp [*]
theorem onK_succ1 {set k : Nat} (h : set.testBit k = true) : onK l set (k + 1) = onK l set k ++ [l.getD k default] := if_pos h
theorem onK_succ0 {set k : Nat} (h : ¬ set.testBit k = true) : onK l set (k + 1) = onK l set k := if_neg h
set_option maxRecDepth 10000 in
theorem C_cost {set : Nat} (m : SH w0 none' ((r, ob) :: (g, plB A l c s pl r) :: G) w) (hr : RdL w0 1 eN A l) (hc : CopOk l) (hs : 1 ≤ s ∧ s ≤ 64) (hpl : 0 ≤ pl ∧ pl ≤ 1048576) (hob : MapIs kI kI f ob) (hk : KnR l s pl f) (hset : set < 2 ^ l.length) :
    Ret Tryz.prog 146 [ptr g 0, I set].toArray w fun v w' => ∃ y : Int × Obj × (Int → Option Int), (CostR l s pl set y.1 ∧ MapIs kI kI y.2.2 y.2.1 ∧ KnR l s pl y.2.2) ∧ v = I y.1 ∧ SH w0 none' ((r, y.2.1) :: (g, plB A l c s pl r) :: G) w' := by
  have h8 := hc.1
  have hs8 : set < 2 ^ 62 := Nat.lt_of_lt_of_le hset (Nat.pow_le_pow_right (by decide) (by omega))
  refine Ret_ofH (vs := [_, _]) hm none' Tryz.func146 rfl Tryz.ntmps146 rfl m ?_
  dsimp only [slotsOf]
  refine GE_seq ?_;refine GE_plain (.st 0 .nil) rfl ?_;refine GT_st rfl rfl rfl rfl (V_assign rfl rfl) ?_;refine GT_nil ?_;refine GE_seq ?_;refine GE_plain (.st 0 (.st 1 (.st 2 (.st 3 (.st 4 (.st 5 (.st 6 (.st 7 (.st 8 (.st 9 (.st 10 .nil))))))))))) rfl ?_;refine GT_st rfl rfl rfl rfl (V_move rfl rfl) ?_;refine GT_st rfl rfl rfl rfl (V_nilCheck rfl rfl) ?_;refine GT_st rfl rfl rfl rfl (V_field rfl rfl fo_215_3) ?_;refine GT_st rfl rfl rfl rfl (V_load rfl rfl ag_213 (CellAt.item rfl)) ?_;refine GT_st rfl rfl rfl rfl (V_move rfl rfl) ?_;refine GT_st rfl rfl rfl rfl (V_lookupOkM (q := (set : Int)) (z := (0 : Int)) hob keyI rfl rfl rfl rfl Tryz.underlying213 zv_2) ?_;refine GT_st rfl rfl rfl rfl (V_move rfl rfl) ?_;refine GT_st rfl rfl rfl rfl (V_extract rfl rfl rfl) ?_;refine GT_st rfl rfl rfl rfl (V_extract rfl rfl rfl) ?_;refine GT_st rfl rfl rfl rfl (V_assign rfl rfl) ?_;refine GT_st rfl rfl rfl rfl (V_assign rfl rfl) ?_;refine GT_nil ?_;refine GE_seq ?_;refine GE_seq ?_;refine GE_slots (L' := [(0, _), (1, _), (5, _), (6, _)]) ⟨rfl, rfl, rfl, rfl, trivial⟩ ?_;refine GE_plain (.st 0 .nil) rfl ?_;refine GT_st rfl rfl rfl rfl (V_move rfl rfl) ?_;refine GT_nil ?_;refine GE_condB rfl (fun hq => ?_) (fun hq => ?_)
  · obtain ⟨v, hv⟩ := Option.isSome_iff_exists.1 hq
    refine GE_seq ?_;refine GE_slots (L' := [(5, _)]) ⟨rfl, trivial⟩ ?_;refine GE_plain (.st 0 (.st 1 .nil)) rfl ?_;refine GT_st rfl rfl rfl rfl (V_move rfl rfl) ?_;refine GT_st rfl rfl rfl rfl (V_assign rfl rfl) ?_;refine GT_nil ?_;refine GE_ret Tryz.func146 rfl (fun w hw => ?_)
    obtain ⟨set', h1, h2⟩ := hk _ _ hv; obtain rfl : set = set' := (by omega); exact ⟨(v, ob, f), ⟨h2, hob, hk⟩, by rw [hv]; rfl, hw⟩
  · refine GE_skip ?_;refine GE_seq ?_;refine GE_plain (.st 0 .nil) rfl ?_;refine GT_st rfl rfl rfl rfl (V_assign rfl rfl) ?_;refine GT_nil ?_;refine GE_seq ?_;refine GE_seq ?_;refine GE_plain (.st 0 (.st 1 (.st 2 (.st 3 (.st 4 (.st 5 .nil)))))) rfl ?_;refine GT_st rfl rfl rfl rfl (V_move rfl rfl) ?_;refine GT_st rfl rfl rfl rfl (V_nilCheck rfl rfl) ?_;refine GT_st rfl rfl rfl rfl (V_field rfl rfl fo_215_0) ?_;refine GT_st rfl rfl rfl rfl (V_load rfl rfl ag_43 (CellAt.item rfl)) ?_;refine GT_st rfl rfl rfl rfl (V_len rfl Tryz.underlying43 rfl) ?_;refine GT_st rfl rfl rfl rfl (V_move rfl rfl) ?_;refine GT_nil ?_;refine GE_block ?_;refine GE_to (GE_loop (ι := Nat × (Option Addr × Nat × Items)) (fun z => l.length - z.1) (fun z => [(0, ptr g 0), (1, I set), (7, .slice z.2.1 (onK l set z.1).length z.2.2.1), (24, .slice A l.length c), (25, I l.length), (26, I z.1)]) (fun z => z.2.2.2 ++ ((r, ob) :: (g, plB A l c s pl r) :: G)) (fun z => z.1 ≤ l.length ∧ Own 1 2 eN (onK l set z.1) (.slice z.2.1 (onK l set z.1).length z.2.2.1) z.2.2.2) ?_ (0, (none, 0, [])) ?_) ⟨rfl, rfl, rfl, rfl, rfl, rfl, trivial⟩ HS.all
    · rintro ⟨k, y⟩ ⟨hkz, hO⟩ ih; dsimp only at hkz hO ih ⊢
      refine GE_seq ?_;refine GE_plain (.st 0 .nil) rfl ?_;refine GT_st rfl rfl rfl rfl (V_lss rfl rfl rfl) ?_;refine GT_nil ?_;refine GE_seq ?_;refine GE_cond rfl (fun q1 => ?_) (fun q1 => ?_)
      · have hkl : k < l.length := (by omega); have hol := onK_len l set k
        refine GE_skip ?_;refine GE_seq ?_;refine GE_block ?_;refine GE_seq ?_;refine GE_plain (.st 0 (.st 1 (.st 2 (.st 3 (.st 4 .nil))))) rfl ?_;refine GT_st rfl rfl rfl rfl (V_move rfl rfl) ?_;refine GT_st rfl rfl rfl rfl (V_index rfl rfl rfl Tryz.underlying43 sz_2 rfl hkl (hr.isSome hkl)) ?_;refine GT_st rfl rfl rfl rfl (V_load rfl rfl ag_2 (hr.at0 noM hkl rfl)) ?_;refine GT_st rfl rfl rfl rfl (V_assign rfl rfl) ?_;refine GT_st rfl rfl rfl rfl (V_assign rfl rfl) ?_;refine GT_nil ?_;refine GE_seq ?_;refine GE_slots (L' := [(0, _), (1, _), (7, _), (8, _), (9, _), (24, _), (25, _), (26, _)]) ⟨rfl, rfl, rfl, rfl, rfl, rfl, rfl, rfl, trivial⟩ ?_;refine GE_plain (.st 0 (.st 1 (.st 2 (.st 3 (.st 4 .nil))))) rfl ?_;refine GT_st rfl rfl rfl rfl (V_move rfl rfl) ?_;refine GT_st rfl rfl rfl rfl (V_move rfl rfl) ?_;refine GT_st rfl rfl rfl rfl (V_shr (s := k) (d := ((2 ^ k : Nat) : Int)) rfl rfl rfl (by show k ≤ 64; omega) (by rw [Int.natCast_pow]; rfl)) ?_;refine GT_st rfl rfl rfl rfl (V_andN (p := set / 2 ^ k) (q := 1) rfl rfl rfl (Int.natCast_ediv ..).symm rfl ⟨Nat.lt_of_le_of_lt (Nat.div_le_self ..) hs8, by decide⟩ rfl) ?_;refine GT_st rfl rfl rfl rfl (V_eqv (v' := .bool (decide (set.testBit k = true))) (V_eql rfl rfl rfl) (congrArg Value.bool (decide_eq_decide.2 one_bit))) ?_;refine GT_nil ?_;refine GE_cond rfl (fun q2 => ?_) (fun q2 => ?_)
        · refine GE_slots (L' := [(0, _), (1, _), (7, _), (9, _), (24, _), (25, _), (26, _)]) ⟨rfl, rfl, rfl, rfl, rfl, rfl, rfl, trivial⟩ ?_;refine GE_plain (.st 0 (.st 1 (.ld 2 [] (.ld 3 [] (.ld 4 [] .nil))))) rfl ?_;refine GT_st rfl rfl rfl rfl (V_move rfl rfl) ?_;refine GT_st rfl rfl rfl rfl (V_move rfl rfl) ?_;refine GT_buildSlice (z := [_]) rfl rfl rfl rfl rfl Tryz.underlying43 zc_2 sz_2 (by decide) rfl rfl (fun _ => GR_nil) (fun b38 => ?_)
          refine GT_append (enc := eN) (l := onK l set k) (m := [l.getD k default]) rfl rfl rfl rfl rfl rfl rfl hO (fun w m => RdL.own' m eN_len) Tryz.underlying43 zc_2 sz_2 ⟨rfl, by decide⟩ by_2 ⟨by simp only [List.length_singleton]; omega, by simp only [List.length_singleton]; omega⟩ eN_len eN_one (fun _ _ _ _ => GR_nil) (fun A3 c3 I3 hO3 => ?_)
          refine GT_ldv rfl rfl rfl rfl rfl (V_assign rfl rfl) (GR_nil) ?_;refine GT_nil ?_;refine GE_inBlock ?_;refine GE_slots (L' := [(0, _), (1, _), (7, _), (24, _), (25, _), (26, _)]) ⟨rfl, rfl, rfl, rfl, rfl, rfl, trivial⟩ ?_;refine GE_plain (.st 0 (.ld 1 [] .nil)) rfl ?_;refine GT_st rfl rfl rfl rfl (V_add rfl rfl rfl (wrap_i64 (by omega))) ?_;refine GT_ldv rfl rfl rfl rfl rfl (V_move rfl rfl) (GR_nil) ?_;refine GT_nil ?_
          first
            | (rw [← onK_succ1 q2] at hO3 ⊢; exact GE_to (ih (k + 1, (A3, c3, I3)) ⟨by dsimp only; omega, hO3⟩ (by dsimp only; omega)) ⟨rfl, rfl, rfl, rfl, rfl, rfl, trivial⟩ (HS.chunk (HS.cons rfl (HS.cons rfl HS.last))))
            | exact GE_to (ih (k + 1, y) ⟨by dsimp only; omega, by show Own 1 2 eN (onK l set (k + 1)) (.slice y.1 (onK l set (k + 1)).length y.2.1) y.2.2; rw [onK_succ0 q2]; exact hO⟩ (by dsimp only; omega)) ⟨rfl, rfl, lookS rfl (congrArg List.length (onK_succ0 q2).symm), rfl, rfl, rfl, trivial⟩ HS.all
        · refine GE_skip ?_;refine GE_inBlock ?_;refine GE_slots (L' := [(0, _), (1, _), (7, _), (24, _), (25, _), (26, _)]) ⟨rfl, rfl, rfl, rfl, rfl, rfl, trivial⟩ ?_;refine GE_plain (.st 0 (.ld 1 [] .nil)) rfl ?_;refine GT_st rfl rfl rfl rfl (V_add rfl rfl rfl (wrap_i64 (by omega))) ?_;refine GT_ldv rfl rfl rfl rfl rfl (V_move rfl rfl) (GR_nil) ?_;refine GT_nil ?_
          first
            | (rw [← onK_succ1 q2] at hO3 ⊢; exact GE_to (ih (k + 1, (A3, c3, I3)) ⟨by dsimp only; omega, hO3⟩ (by dsimp only; omega)) ⟨rfl, rfl, rfl, rfl, rfl, rfl, trivial⟩ (HS.chunk (HS.cons rfl (HS.cons rfl HS.last))))
            | exact GE_to (ih (k + 1, y) ⟨by dsimp only; omega, by show Own 1 2 eN (onK l set (k + 1)) (.slice y.1 (onK l set (k + 1)).length y.2.1) y.2.2; rw [onK_succ0 q2]; exact hO⟩ (by dsimp only; omega)) ⟨rfl, rfl, lookS rfl (congrArg List.length (onK_succ0 q2).symm), rfl, rfl, rfl, trivial⟩ HS.all
      · obtain rfl : k = l.length := (by omega)
        refine GE_exit rfl ?_;refine GE_seq ?_;refine GE_seq ?_;refine GE_slots (L' := [(0, _), (1, _), (7, _)]) ⟨rfl, rfl, rfl, trivial⟩ ?_;refine GE_plain (.st 0 (.st 1 (.st 2 (.st 3 (.st 4 (.ld 5 [] (.st 6 (.st 7 (.st 8 (.st 9 (.st 10 .nil))))))))))) rfl ?_;refine GT_st rfl rfl rfl rfl (V_move rfl rfl) ?_;refine GT_st rfl rfl rfl rfl (V_move rfl rfl) ?_;refine GT_st rfl rfl rfl rfl (V_nilCheck rfl rfl) ?_;refine GT_st rfl rfl rfl rfl (V_field rfl rfl fo_215_1) ?_;refine GT_st rfl rfl rfl rfl (V_load rfl rfl ag_2 (CellAt.item rfl)) ?_;refine GT_call rfl rfl rfl rfl rfl rfl rfl rfl rn_86 (fun w hw => C_runR (on := onK l set l.length) (hO.rd eN_len (hw.hs (C := cx Tryz.prog hm 0 0 w0 none' fun _ _ => True) HS.last)) (onK_ok hc (Nat.le_refl _)) hs) (fun _ _ => GR_nil) (fun ro hro => ?_)
        refine GT_st rfl rfl rfl rfl (V_move rfl rfl) ?_;refine GT_st rfl rfl rfl rfl (V_extract rfl rfl rfl) ?_;refine GT_st rfl rfl rfl rfl (V_extract rfl rfl rfl) ?_;refine GT_st rfl rfl rfl rfl (V_assign rfl rfl) ?_;refine GT_st rfl rfl rfl rfl (V_assign rfl rfl) ?_;refine GT_nil ?_;refine GE_seq ?_;refine GE_slots (L' := [(0, _), (1, _), (5, _), (6, _)]) ⟨rfl, rfl, rfl, rfl, trivial⟩ ?_
        have hrb := hro.bd
        refine GE_plain (.st 0 .nil) rfl ?_;refine GT_st rfl rfl rfl rfl (V_move rfl rfl) ?_;refine GT_nil ?_;refine GE_condB rfl (fun q3 => ?_) (fun q3 => ?_)
        · have hcR : CostR l s pl set (ro.1 + pl) := ⟨ro, hro, by rw [if_pos q3]⟩
          refine GE_plain (.st 0 (.st 1 (.st 2 (.st 3 (.st 4 (.st 5 (.ld 6 [] .nil))))))) rfl ?_;refine GT_st rfl rfl rfl rfl (V_move rfl rfl) ?_;refine GT_st rfl rfl rfl rfl (V_move rfl rfl) ?_;refine GT_st rfl rfl rfl rfl (V_nilCheck rfl rfl) ?_;refine GT_st rfl rfl rfl rfl (V_field rfl rfl fo_215_2) ?_;refine GT_st rfl rfl rfl rfl (V_load rfl rfl ag_2 (CellAt.item rfl)) ?_;refine GT_st rfl rfl rfl rfl (V_add rfl rfl rfl (wrap_i64 (by omega))) ?_;refine GT_ldv rfl rfl rfl rfl rfl (V_assign rfl rfl) (GR_nil) ?_;refine GT_nil ?_;refine GE_seq ?_;refine GE_slots (L' := [(0, _), (1, _), (5, _)]) ⟨rfl, rfl, rfl, trivial⟩ ?_;refine GE_plain (.st 0 (.st 1 (.st 2 (.st 3 (.st 4 (.st 5 (.ld 6 [] .nil))))))) rfl ?_;refine GT_st rfl rfl rfl rfl (V_move rfl rfl) ?_;refine GT_st rfl rfl rfl rfl (V_nilCheck rfl rfl) ?_;refine GT_st rfl rfl rfl rfl (V_field rfl rfl fo_215_3) ?_;refine GT_st rfl rfl rfl rfl (V_load rfl rfl ag_213 (CellAt.item rfl)) ?_;refine GT_st rfl rfl rfl rfl (V_move rfl rfl) ?_;refine GT_st rfl rfl rfl rfl (V_move rfl rfl) ?_;refine GT_mapUpdateM (q := (set : Int)) (v := _) hob keyI rfl rfl rfl rfl rfl rfl rfl rfl rfl Tryz.underlying213 (fun _ => GR_nil) (fun ob' hob' => ?_)
          refine GT_nil ?_;refine GE_seq ?_;refine GE_slots (L' := [(5, _)]) ⟨rfl, trivial⟩ ?_;refine GE_plain (.st 0 (.st 1 .nil)) rfl ?_;refine GT_st rfl rfl rfl rfl (V_move rfl rfl) ?_;refine GT_st rfl rfl rfl rfl (V_assign rfl rfl) ?_;refine GT_nil ?_;refine GE_ret Tryz.func146 rfl (fun w hw => ?_)
          exact ⟨(_, ob', _), ⟨hcR, hob', hk.upd hcR⟩, rfl, hw.hs (C := cx Tryz.prog hm 0 0 w0 none' fun _ _ => True) (HS.cons rfl (HS.cons rfl HS.last))⟩
        · have hcR : CostR l s pl set (-1) := ⟨ro, hro, by rw [if_neg (by rw [q3]; decide)]⟩
          refine GE_plain (.st 0 .nil) rfl ?_;refine GT_st rfl rfl rfl rfl (V_assign rfl rfl) ?_;refine GT_nil ?_;refine GE_seq ?_;refine GE_plain (.st 0 (.st 1 (.st 2 (.st 3 (.st 4 (.st 5 (.ld 6 [] .nil))))))) rfl ?_;refine GT_st rfl rfl rfl rfl (V_move rfl rfl) ?_;refine GT_st rfl rfl rfl rfl (V_nilCheck rfl rfl) ?_;refine GT_st rfl rfl rfl rfl (V_field rfl rfl fo_215_3) ?_;refine GT_st rfl rfl rfl rfl (V_load rfl rfl ag_213 (CellAt.item rfl)) ?_;refine GT_st rfl rfl rfl rfl (V_move rfl rfl) ?_;refine GT_st rfl rfl rfl rfl (V_move rfl rfl) ?_;refine GT_mapUpdateM (q := (set : Int)) (v := _) hob keyI rfl rfl rfl rfl rfl rfl rfl rfl rfl Tryz.underlying213 (fun _ => GR_nil) (fun ob' hob' => ?_)
          refine GT_nil ?_;refine GE_seq ?_;refine GE_slots (L' := [(5, _)]) ⟨rfl, trivial⟩ ?_;refine GE_plain (.st 0 (.st 1 .nil)) rfl ?_;refine GT_st rfl rfl rfl rfl (V_move rfl rfl) ?_;refine GT_st rfl rfl rfl rfl (V_assign rfl rfl) ?_;refine GT_nil ?_;refine GE_ret Tryz.func146 rfl (fun w hw => ?_)
          exact ⟨(_, ob', _), ⟨hcR, hob', hk.upd hcR⟩, rfl, hw.hs (C := cx Tryz.prog hm 0 0 w0 none' fun _ _ => True) (HS.cons rfl (HS.cons rfl HS.last))⟩
    · exact ⟨Nat.zero_le _, Own.nil⟩
theorem rsumT {x y : Int} {n : Nat} (h : 0 ≤ x ∧ x ≤ 2097152 * n) (h2 : 0 ≤ y ∧ y ≤ 2097152) : 0 ≤ x + y ∧ x + y ≤ 2097152 * (n + 1 : Nat) := by omega
set_option maxRecDepth 10000 in
theorem C_sum {sets : List Nat} {A2 : Option Addr} {c2 : Nat} (m : SH w0 none' ((r, ob) :: (g, plB A l c s pl r) :: G) w) (hr : RdL w0 1 eN A l) (hc : CopOk l) (hs : 1 ≤ s ∧ s ≤ 64) (hpl : 0 ≤ pl ∧ pl ≤ 1048576) (hob : MapIs kI kI f ob) (hk : KnR l s pl f)
    (hset : ∀ x ∈ sets, x < 2 ^ l.length) (hn : sets.length ≤ 8) (hG : ∀ w, SH w0 none' G w → RdL w 1 eN A2 (sets.map fun x : Nat => (x : Int))) :
    Ret Tryz.prog 88 [ptr g 0, .slice A2 sets.length c2].toArray w fun v w' => ∃ y : (Int × Bool) × Obj × (Int → Option Int), (SumR l s pl sets y.1 ∧ MapIs kI kI y.2.2 y.2.1 ∧ KnR l s pl y.2.2) ∧ v = .tuple #[I y.1.1, .bool y.1.2] ∧ SH w0 none' ((r, y.2.1) :: (g, plB A l c s pl r) :: G) w' := by
  refine Ret_ofH (vs := [_, _]) hm none' Tryz.func88 rfl Tryz.ntmps88 rfl m ?_
  dsimp only [slotsOf]
  refine GE_seq ?_;refine GE_plain (.st 0 (.st 1 .nil)) rfl ?_;refine GT_st rfl rfl rfl rfl (V_assign rfl rfl) ?_;refine GT_st rfl rfl rfl rfl (V_assign rfl rfl) ?_;refine GT_nil ?_;refine GE_seq ?_;refine GE_plain (.st 0 .nil) rfl ?_;refine GT_st rfl rfl rfl rfl (V_assign rfl rfl) ?_;refine GT_nil ?_;refine GE_seq ?_;refine GE_seq ?_;refine GE_plain (.st 0 (.st 1 (.st 2 .nil))) rfl ?_;refine GT_st rfl rfl rfl rfl (V_move rfl rfl) ?_;refine GT_st rfl rfl rfl rfl (V_len rfl Tryz.underlying38 rfl) ?_;refine GT_st rfl rfl rfl rfl (V_move rfl rfl) ?_;refine GT_nil ?_;refine GE_block ?_;refine GE_to (GE_loop (ι := Nat × Int × Obj × (Int → Option Int)) (fun z => sets.length - z.1) (fun z => [(0, ptr g 0), (6, I z.2.1), (10, .slice A2 sets.length c2), (11, I sets.length), (12, I z.1)]) (fun z => (r, z.2.2.1) :: (g, plB A l c s pl r) :: G) (fun z => z.1 ≤ sets.length ∧ (0 ≤ z.2.1 ∧ z.2.1 ≤ 2097152 * z.1) ∧ MapIs kI kI z.2.2.2 z.2.2.1 ∧ KnR l s pl z.2.2.2 ∧ (z.1 = 0 → z.2.1 = 0) ∧ (z.1 = 1 → CostR l s pl (sets.getD 0 default) z.2.1)) ?_ (0, 0, ob, f) ?_) ⟨rfl, rfl, rfl, rfl, rfl, trivial⟩ HS.all
  · rintro ⟨k, sm, ob1, f1⟩ ⟨hkl, hsm, hob1, hk1, h0, h1⟩ ih; dsimp only at hkl hsm hob1 hk1 h0 h1 ih ⊢
    refine GE_seq ?_;refine GE_plain (.st 0 .nil) rfl ?_;refine GT_st rfl rfl rfl rfl (V_lss rfl rfl rfl) ?_;refine GT_nil ?_;refine GE_seq ?_;refine GE_cond rfl (fun q1 => ?_) (fun q1 => ?_)
    · have hks : k < sets.length := (by omega); have hkm : k < (sets.map fun x : Nat => (x : Int)).length := (by rw [List.length_map]; exact hks); have hgk : (sets.map fun x : Nat => (x : Int)).getD k default = ((sets.getD k default : Nat) : Int) := (by simp [List.getD, hks])
      refine GE_skip ?_;refine GE_seq ?_;refine GE_block ?_;refine GE_seq ?_;refine GE_plain (.st 0 (.st 1 (.st 2 .nil))) rfl ?_;refine GT_st rfl rfl rfl rfl (V_index rfl rfl rfl Tryz.underlying38 sz_3 rfl hks ((hG _ (m.hs (C := cx Tryz.prog hm 0 0 w0 none' fun _ _ => True) (HS.last))).isSome hkm)) ?_;refine GT_st rfl rfl rfl rfl (V_load rfl rfl ag_3 (CellAt.rdH0 (fun w m => hG w (m.hs (HS.last))) hkm (by rw [hgk]; rfl))) ?_;refine GT_st rfl rfl rfl rfl (V_assign rfl rfl) ?_;refine GT_nil ?_;refine GE_seq ?_;refine GE_plain (.st 0 (.st 1 (.ld 2 [] (.st 3 .nil)))) rfl ?_;refine GT_st rfl rfl rfl rfl (V_move rfl rfl) ?_;refine GT_st rfl rfl rfl rfl (V_move rfl rfl) ?_;refine GT_callX rfl rfl rfl rfl rfl rfl rfl rfl rn_146 (fun w m => C_cost m hr hc hs hpl hob1 hk1 (hset _ (getD_memT hks))) (fun _ _ => GR_nil) (fun y hy => ?_)
      refine GT_st rfl rfl rfl rfl (V_assign rfl rfl) ?_;refine GT_nil ?_;refine GE_seq ?_;refine GE_seq ?_;refine GE_slots (L' := [(0, _), (6, _), (9, _), (10, _), (11, _), (12, _)]) ⟨rfl, rfl, rfl, rfl, rfl, rfl, trivial⟩ ?_
      have hcb := hy.1.bd hpl
      refine GE_plain (.st 0 (.st 1 .nil)) rfl ?_;refine GT_st rfl rfl rfl rfl (V_move rfl rfl) ?_;refine GT_st rfl rfl rfl rfl (V_lss rfl rfl rfl) ?_;refine GT_nil ?_;refine GE_cond rfl (fun q2 => ?_) (fun q2 => ?_)
      · refine GE_seq ?_;refine GE_slots (L' := []) trivial ?_;refine GE_plain (.st 0 (.st 1 .nil)) rfl ?_;refine GT_st rfl rfl rfl rfl (V_assign rfl rfl) ?_;refine GT_st rfl rfl rfl rfl (V_assign rfl rfl) ?_;refine GT_nil ?_;refine GE_ret Tryz.func88 ⟨_, _, rfl, rfl, rfl⟩ (fun w hw => ?_)
        refine ⟨((0, false), y.2.1, y.2.2), ⟨⟨⟨Int.le_refl _, by show (0 : Int) ≤ _; omega⟩, fun x cc e hcc => ?_⟩, hy.2.1, hy.2.2⟩, rfl, hw⟩; subst e; obtain rfl : k = 0 := (by simp at hks; omega); have := hy.1.uniq hcc; exact ⟨fun h => (by omega), fun _ => rfl⟩
      · have hsT := rsumT hsm (y := y.1) ⟨by omega, by omega⟩
        refine GE_skip ?_;refine GE_plain (.st 0 (.st 1 (.st 2 (.ld 3 [] .nil)))) rfl ?_;refine GT_st rfl rfl rfl rfl (V_move rfl rfl) ?_;refine GT_st rfl rfl rfl rfl (V_move rfl rfl) ?_;refine GT_st rfl rfl rfl rfl (V_add rfl rfl rfl (wrap_i64 (by omega))) ?_;refine GT_ldv rfl rfl rfl rfl rfl (V_assign rfl rfl) (GR_nil) ?_;refine GT_nil ?_;refine GE_inBlock ?_;refine GE_slots (L' := [(0, _), (6, _), (10, _), (11, _), (12, _)]) ⟨rfl, rfl, rfl, rfl, rfl, trivial⟩ ?_;refine GE_plain (.st 0 (.ld 1 [] .nil)) rfl ?_;refine GT_st rfl rfl rfl rfl (V_add rfl rfl rfl (wrap_i64 (by omega))) ?_;refine GT_ldv rfl rfl rfl rfl rfl (V_move rfl rfl) (GR_nil) ?_;refine GT_nil ?_
        exact GE_to (ih (k + 1, sm + y.1, y.2.1, y.2.2) ⟨by dsimp only; omega, hsT, hy.2.1, hy.2.2, fun h => (by dsimp only at h; omega), fun h => (by dsimp only at h ⊢; obtain rfl : k = 0 := (by omega); rw [h0 rfl, Int.zero_add]; exact hy.1)⟩ (by dsimp only; omega)) ⟨rfl, rfl, rfl, rfl, rfl, trivial⟩ (HS.cons rfl (HS.cons rfl HS.last))
    · obtain rfl : k = sets.length := (by omega)
      refine GE_exit rfl ?_;refine GE_seq ?_;refine GE_slots (L' := [(6, _)]) ⟨rfl, trivial⟩ ?_;refine GE_plain (.st 0 (.st 1 (.st 2 .nil))) rfl ?_;refine GT_st rfl rfl rfl rfl (V_move rfl rfl) ?_;refine GT_st rfl rfl rfl rfl (V_assign rfl rfl) ?_;refine GT_st rfl rfl rfl rfl (V_assign rfl rfl) ?_;refine GT_nil ?_;refine GE_ret Tryz.func88 ⟨_, _, rfl, rfl, rfl⟩ (fun w hw => ?_)
      refine ⟨((sm, true), ob1, f1), ⟨⟨hsm, fun x cc e hcc => ?_⟩, hob1, hk1⟩, rfl, hw⟩; subst e; have := (h1 rfl).uniq hcc; exact ⟨fun _ => (by rw [← this]), fun h => (by have := hsm.1; omega)⟩
  · exact ⟨Nat.zero_le _, ⟨Int.le_refl _, Int.le_refl _⟩, hob, hk, fun _ => rfl, fun h => by cases h⟩
end
end Go.Proofs.YtpbflnfcgcldkaaGreatDoor.Slv
/- The best gang: what the search keeps, walked. -/
namespace Go.Proofs.YtpbflnfcgcldkaaGreatDoor.Slv
open Go.Sx Go.Proofs Go.RowKit
open Side (eN eN_len eN_one getD_memT sh_trans)
structure GB where
  b0 : Nat
  b1 : Nat
  b2 : Nat
  b3 : Nat
  b4 : Nat
  b5 : Nat
  b6 : Nat
  g : Nat
  r : Nat
  A : Option Addr
  c : Nat
  l : List Int
  s : Int
  pl : Int
structure NS where
  A0 : Option Addr
  c0 : Nat
  I0 : Items
  A3 : Option Addr
  c3 : Nat
  I3 : Items
  least : Int
  bv : Value
  ob : Obj
  f : Int → Option Int
abbrev nats (S : List Nat) : List Int := S.map fun x : Nat => (x : Int)
abbrev GB.fn (e : GB) : Value := .func (.func 89) #[] #[ptr e.b0 0, ptr e.b1 0, ptr e.b2 0, ptr e.b3 0, ptr e.b4 0, ptr e.b5 0, ptr e.b6 0]
abbrev GB.R (e : GB) (i m : Nat) (x : NS) : Items :=
  (e.b0, blk [.slice x.A0 i x.c0] 38) :: (e.b3, blk [.slice x.A3 m x.c3] 38) :: (e.b4, blk [I x.least] 2) :: (e.b5, blk [x.bv] 38) ::
  (e.b1, blk [.slice e.A e.l.length e.c] 43) :: (e.b2, blk [ptr e.g 0] 212) :: (e.b6, blk [e.fn] 1) :: (x.I0 ++ (x.I3 ++ []))
abbrev GB.H (e : GB) (i m : Nat) (x : NS) : Items := (e.r, x.ob) :: (e.g, plB e.A e.l e.c e.s e.pl e.r) :: e.R i m x
structure GB.Ok (e : GB) (w0 : World) : Prop where
  rd : RdL w0 1 eN e.A e.l
  cop : CopOk e.l
  one : 1 ≤ e.l.length
  s : 1 ≤ e.s ∧ e.s ≤ 64
  pl : 0 ≤ e.pl ∧ e.pl ≤ 1048576
structure GS (e : GB) (G : List Int) (S : List Nat) (i : Nat) (x : NS) : Prop where
  len : G.length = i
  own : Own 1 3 eN G (.slice x.A0 G.length x.c0) x.I0
  sown : Own 1 3 eN (nats S) (.slice x.A3 S.length x.c3) x.I3
  sets : SetsOk S i
  map : MapIs kI kI x.f x.ob
  kn : KnR e.l e.s e.pl x.f
  bd : -1 ≤ x.least ∧ x.least ≤ 100000000
def NextC (e : GB) (w0 : World) (i : Nat) : Prop := ∀ (w : World) (G : List Int) (S : List Nat) (x : NS), SH w0 none' (e.H G.length S.length x) w → GS e G S i x →
  Ret Tryz.prog 89 [ptr e.b0 0, ptr e.b1 0, ptr e.b2 0, ptr e.b3 0, ptr e.b4 0, ptr e.b5 0, ptr e.b6 0].toArray w fun v w' => ∃ y : NS, (GS e G S i y ∧ StepR x.least y.least ∧ FirstR e.l e.s e.pl G S i x.least y.least) ∧ v = .tuple #[] ∧ SH w0 none' (e.H G.length S.length y) w'
theorem nats_len (S : List Nat) : (nats S).length = S.length := List.length_map ..
theorem leafT {e : GB} {G : List Int} {S : List Nat} {x : Int} {r : Int × Bool} (hr : SumR e.l e.s e.pl S r) (h2 : x < 0 ∨ r.1 < x) (hS : S.length ≤ 8) (h0 : 1 ≤ e.l.length) : StepR x r.1 ∧ FirstR e.l e.s e.pl G S e.l.length x r.1 := by
  have hb := hr.bd
  refine ⟨⟨by omega, by omega, fun h => by omega⟩, fun _ hf _ c hc hc0 => ?_⟩
  have := (hr.one _ c (by rw [hf, full, if_neg (by omega)]) hc).1 hc0
  rw [this]
  exact ⟨hc0, Int.le_refl _⟩
theorem leafF {e : GB} {G : List Int} {S : List Nat} {x : Int} {r : Int × Bool} (hr : SumR e.l e.s e.pl S r) (hx : -1 ≤ x ∧ x ≤ 100000000) (h : r.2 = false ∨ (¬ x < 0 ∧ ¬ r.1 < x)) (h0 : 1 ≤ e.l.length) : StepR x x ∧ FirstR e.l e.s e.pl G S e.l.length x x := by
  refine ⟨StepR.refl hx, fun _ hf hx1 c hc hc0 => ?_⟩
  have := (hr.one _ c (by rw [hf, full, if_neg (by omega)]) hc).1 hc0
  rw [this] at h
  rcases h with h | h
  · cases h
  · omega
section
variable {w0 : World} {e : GB}
set_option maxRecDepth 20000 in
theorem C_nextLeaf (he : e.Ok w0) : NextC e w0 e.l.length := by
  intro w G S x m hx
  have h8 := he.cop.1
  have h1 := he.one
  have hS8 : S.length ≤ 8 := Nat.le_trans hx.sets.1 h8
  refine Ret_ofH (vs := [_, _, _, _, _, _, _]) hm none' Tryz.func89 rfl Tryz.ntmps89 rfl m ?_
  dsimp only [slotsOf]
  refine GE_seq ?_;refine GE_plain (.st 0 (.st 1 (.st 2 .nil))) rfl ?_;refine GT_st rfl rfl rfl rfl (V_load rfl rfl ag_38 (CellAt.item rfl)) ?_;refine GT_st rfl rfl rfl rfl (V_len rfl Tryz.underlying38 rfl) ?_;refine GT_st rfl rfl rfl rfl (V_assign rfl rfl) ?_;refine GT_nil ?_;refine GE_seq ?_;refine GE_seq ?_;refine GE_plain (.st 0 (.st 1 (.st 2 (.st 3 .nil)))) rfl ?_;refine GT_st rfl rfl rfl rfl (V_move rfl rfl) ?_;refine GT_st rfl rfl rfl rfl (V_load rfl rfl ag_43 (CellAt.item rfl)) ?_;refine GT_st rfl rfl rfl rfl (V_len rfl Tryz.underlying43 rfl) ?_;refine GT_st rfl rfl rfl rfl (V_isT (V_eql rfl rfl rfl) (congrArg Int.ofNat hx.len)) ?_;refine GT_nil ?_;refine GE_cond_t rfl ?_;refine GE_seq ?_;refine GE_seq ?_;refine GE_slots (L' := [(0, _), (2, _), (3, _), (4, _), (5, _)]) ⟨rfl, rfl, rfl, rfl, rfl, trivial⟩ ?_;refine GE_plain (.st 0 (.st 1 (.ld 2 [] (.st 3 (.st 4 (.st 5 (.st 6 (.st 7 .nil)))))))) rfl ?_;refine GT_st rfl rfl rfl rfl (V_load rfl rfl ag_212 (CellAt.item rfl)) ?_;refine GT_st rfl rfl rfl rfl (V_load rfl rfl ag_38 (CellAt.item rfl)) ?_;refine GT_callX rfl rfl rfl rfl rfl rfl rfl rfl rn_88 (fun w m => C_sum (G := e.R G.length S.length x) (c := e.c) (r := e.r) (ob := x.ob) (g := e.g) (m.hs (HS.cons rfl (HS.cons rfl HS.all))) he.rd he.cop he.s he.pl hx.map hx.kn hx.sets.2 hS8 (fun w m => hx.sown.rd eN_len (m.hs (C := cx Tryz.prog hm 0 0 w0 none' fun _ _ => True) HS.last))) (fun _ _ => GR_nil) (fun y hy => ?_)
  refine GT_st rfl rfl rfl rfl (V_move rfl rfl) ?_;refine GT_st rfl rfl rfl rfl (V_extract rfl rfl rfl) ?_;refine GT_st rfl rfl rfl rfl (V_extract rfl rfl rfl) ?_;refine GT_st rfl rfl rfl rfl (V_assign rfl rfl) ?_;refine GT_st rfl rfl rfl rfl (V_assign rfl rfl) ?_;refine GT_nil ?_;refine GE_seq ?_;refine GE_slots (L' := [(0, _), (4, _), (5, _), (8, _), (9, _)]) ⟨rfl, rfl, rfl, rfl, rfl, trivial⟩ ?_;refine GE_plain (.st 0 (.st 1 (.st 2 (.st 3 (.st 4 (.st 5 (.st 6 (.st 7 (.st 8 (.st 9 .nil)))))))))) rfl ?_;refine GT_st rfl rfl rfl rfl (V_move rfl rfl) ?_;refine GT_st rfl rfl rfl rfl (V_move rfl rfl) ?_;refine GT_splitB (d := 25) rfl (fun q1 => ?_) (fun q1 => ?_)
  · refine GT_st_g rfl rfl rfl rfl rfl rfl rfl (V_load rfl rfl ag_2 (CellAt.item rfl)) ?_;refine GT_st_g rfl rfl rfl rfl rfl rfl rfl (V_lss rfl rfl rfl) ?_;refine GT_st_g rfl rfl rfl rfl rfl rfl rfl (V_move rfl rfl) ?_;refine GT_split (d := 28) rfl (fun q2 => ?_) (fun q2 => ?_)
    · refine GT_skip rfl rfl rfl rfl rfl (by decide) rfl rfl ?_;refine GT_skip rfl rfl rfl rfl rfl (by decide) rfl rfl ?_;refine GT_skip rfl rfl rfl rfl rfl (by decide) rfl rfl ?_;refine GT_st_g rfl rfl rfl rfl rfl rfl rfl (V_pick_t rfl rfl rfl) ?_;refine GT_st rfl rfl rfl rfl (V_pick_t rfl rfl rfl) ?_;refine GT_nil ?_;refine GE_cond_t rfl ?_;refine GE_slots (L' := [(0, _), (4, _), (5, _), (8, _)]) ⟨rfl, rfl, rfl, rfl, trivial⟩ ?_;refine GE_plain (.st 0 (.ld 1 [] (.st 2 (.ld 3 [] (.ld 4 [] .nil))))) rfl ?_;refine GT_st rfl rfl rfl rfl (V_load rfl rfl ag_38 (CellAt.item rfl)) ?_;refine GT_call rfl rfl rfl rfl rfl rfl rfl rfl rn_90 (fun w hw => Side.C_CloneI (hx.own.rd eN_len (hw.hs (C := cx Tryz.prog hm 0 0 w0 none' fun _ _ => True) HS.last)) (hx.own.isSome (k := 0) (by rw [hx.len]; exact h1)) (by rw [hx.len]; omega)) (fun _ _ => GR_nil) (fun yc hyc => ?_)
      refine GT_st rfl rfl rfl rfl (V_move rfl rfl) ?_;refine GT_store (vs := [_]) (l' := [_]) rfl rfl rfl rfl rfl rfl rfl sz_38 rfl rfl (Nat.le_of_ble_eq_true rfl) rfl (GR_nil) ?_;refine GT_store (vs := [_]) (l' := [_]) rfl rfl rfl rfl rfl rfl rfl sz_2 rfl rfl (Nat.le_of_ble_eq_true rfl) rfl (GR_nil) ?_;refine GT_nil ?_;refine GE_ret Tryz.func89 rfl (fun w hw => ?_)
      first
      | (obtain ⟨h3, h4⟩ := leafT (G := G) (x := x.least) hy.1 (by first | exact .inl (by assumption) | exact .inr (by assumption)) hS8 h1; exact ⟨{ x with least := y.1.1, bv := .slice yc.1 G.length yc.2.1, ob := y.2.1, f := y.2.2 }, ⟨⟨hx.len, hx.own, hx.sown, hx.sets, hy.2.1, hy.2.2, ⟨h3.1, h3.2.1⟩⟩, h3, h4⟩, rfl, hw.hs (C := cx Tryz.prog hm 0 0 w0 none' fun _ _ => True) (HS.cons rfl (HS.cons rfl (HS.cons rfl (HS.cons rfl (HS.cons rfl (HS.cons rfl (HS.cons rfl (HS.cons rfl (HS.cons rfl (HS.chunk (HS.chunk HS.nil)))))))))))⟩)
      | (obtain ⟨h3, h4⟩ := leafF (G := G) (x := x.least) hy.1 hx.bd (by first | exact .inl (by assumption) | exact .inr ⟨by assumption, by assumption⟩) h1; exact ⟨{ x with ob := y.2.1, f := y.2.2 }, ⟨⟨hx.len, hx.own, hx.sown, hx.sets, hy.2.1, hy.2.2, hx.bd⟩, h3, h4⟩, rfl, hw.hs (C := cx Tryz.prog hm 0 0 w0 none' fun _ _ => True) (HS.cons rfl (HS.cons rfl (HS.cons rfl (HS.cons rfl (HS.cons rfl (HS.cons rfl (HS.cons rfl (HS.cons rfl (HS.cons rfl (HS.chunk (HS.chunk HS.nil)))))))))))⟩)
    · refine GT_st_g rfl rfl rfl rfl rfl rfl rfl (V_move rfl rfl) ?_;refine GT_st_g rfl rfl rfl rfl rfl rfl rfl (V_load rfl rfl ag_2 (CellAt.item rfl)) ?_;refine GT_st_g rfl rfl rfl rfl rfl rfl rfl (V_lss rfl rfl rfl) ?_;refine GT_st_g rfl rfl rfl rfl rfl rfl rfl (V_pick_f rfl rfl rfl) ?_;refine GT_st rfl rfl rfl rfl (V_pick_t rfl rfl rfl) ?_;refine GT_nil ?_;refine GE_cond rfl (fun q3 => ?_) (fun q3 => ?_)
      · refine GE_slots (L' := [(0, _), (4, _), (5, _), (8, _)]) ⟨rfl, rfl, rfl, rfl, trivial⟩ ?_;refine GE_plain (.st 0 (.ld 1 [] (.st 2 (.ld 3 [] (.ld 4 [] .nil))))) rfl ?_;refine GT_st rfl rfl rfl rfl (V_load rfl rfl ag_38 (CellAt.item rfl)) ?_;refine GT_call rfl rfl rfl rfl rfl rfl rfl rfl rn_90 (fun w hw => Side.C_CloneI (hx.own.rd eN_len (hw.hs (C := cx Tryz.prog hm 0 0 w0 none' fun _ _ => True) HS.last)) (hx.own.isSome (k := 0) (by rw [hx.len]; exact h1)) (by rw [hx.len]; omega)) (fun _ _ => GR_nil) (fun yc hyc => ?_)
        refine GT_st rfl rfl rfl rfl (V_move rfl rfl) ?_;refine GT_store (vs := [_]) (l' := [_]) rfl rfl rfl rfl rfl rfl rfl sz_38 rfl rfl (Nat.le_of_ble_eq_true rfl) rfl (GR_nil) ?_;refine GT_store (vs := [_]) (l' := [_]) rfl rfl rfl rfl rfl rfl rfl sz_2 rfl rfl (Nat.le_of_ble_eq_true rfl) rfl (GR_nil) ?_;refine GT_nil ?_;refine GE_ret Tryz.func89 rfl (fun w hw => ?_)
        first
        | (obtain ⟨h3, h4⟩ := leafT (G := G) (x := x.least) hy.1 (by first | exact .inl (by assumption) | exact .inr (by assumption)) hS8 h1; exact ⟨{ x with least := y.1.1, bv := .slice yc.1 G.length yc.2.1, ob := y.2.1, f := y.2.2 }, ⟨⟨hx.len, hx.own, hx.sown, hx.sets, hy.2.1, hy.2.2, ⟨h3.1, h3.2.1⟩⟩, h3, h4⟩, rfl, hw.hs (C := cx Tryz.prog hm 0 0 w0 none' fun _ _ => True) (HS.cons rfl (HS.cons rfl (HS.cons rfl (HS.cons rfl (HS.cons rfl (HS.cons rfl (HS.cons rfl (HS.cons rfl (HS.cons rfl (HS.chunk (HS.chunk HS.nil)))))))))))⟩)
        | (obtain ⟨h3, h4⟩ := leafF (G := G) (x := x.least) hy.1 hx.bd (by first | exact .inl (by assumption) | exact .inr ⟨by assumption, by assumption⟩) h1; exact ⟨{ x with ob := y.2.1, f := y.2.2 }, ⟨⟨hx.len, hx.own, hx.sown, hx.sets, hy.2.1, hy.2.2, hx.bd⟩, h3, h4⟩, rfl, hw.hs (C := cx Tryz.prog hm 0 0 w0 none' fun _ _ => True) (HS.cons rfl (HS.cons rfl (HS.cons rfl (HS.cons rfl (HS.cons rfl (HS.cons rfl (HS.cons rfl (HS.cons rfl (HS.cons rfl (HS.chunk (HS.chunk HS.nil)))))))))))⟩)
      · refine GE_skip ?_;refine GE_ret Tryz.func89 rfl (fun w hw => ?_)
        first
        | (obtain ⟨h3, h4⟩ := leafT (G := G) (x := x.least) hy.1 (by first | exact .inl (by assumption) | exact .inr (by assumption)) hS8 h1; exact ⟨{ x with least := y.1.1, bv := .slice yc.1 G.length yc.2.1, ob := y.2.1, f := y.2.2 }, ⟨⟨hx.len, hx.own, hx.sown, hx.sets, hy.2.1, hy.2.2, ⟨h3.1, h3.2.1⟩⟩, h3, h4⟩, rfl, hw.hs (C := cx Tryz.prog hm 0 0 w0 none' fun _ _ => True) (HS.cons rfl (HS.cons rfl (HS.cons rfl (HS.cons rfl (HS.cons rfl (HS.cons rfl (HS.cons rfl (HS.cons rfl (HS.cons rfl (HS.chunk (HS.chunk HS.nil)))))))))))⟩)
        | (obtain ⟨h3, h4⟩ := leafF (G := G) (x := x.least) hy.1 hx.bd (by first | exact .inl (by assumption) | exact .inr ⟨by assumption, by assumption⟩) h1; exact ⟨{ x with ob := y.2.1, f := y.2.2 }, ⟨⟨hx.len, hx.own, hx.sown, hx.sets, hy.2.1, hy.2.2, hx.bd⟩, h3, h4⟩, rfl, hw.hs (C := cx Tryz.prog hm 0 0 w0 none' fun _ _ => True) (HS.cons rfl (HS.cons rfl (HS.cons rfl (HS.cons rfl (HS.cons rfl (HS.cons rfl (HS.cons rfl (HS.cons rfl (HS.cons rfl (HS.chunk (HS.chunk HS.nil)))))))))))⟩)
  · refine GT_skip rfl rfl rfl rfl rfl (by decide) rfl rfl ?_;refine GT_skip rfl rfl rfl rfl rfl (by decide) rfl rfl ?_;refine GT_skip rfl rfl rfl rfl rfl (by decide) rfl rfl ?_;refine GT_skip rfl rfl rfl rfl rfl (by decide) rfl rfl ?_;refine GT_skip rfl rfl rfl rfl rfl (by decide) rfl rfl ?_;refine GT_skip rfl rfl rfl rfl rfl (by decide) rfl rfl ?_;refine GT_skip rfl rfl rfl rfl rfl (by decide) rfl rfl ?_;refine GT_st rfl rfl rfl rfl (V_pick_f rfl rfl rfl) ?_;refine GT_nil ?_;refine GE_cond_f rfl ?_;refine GE_skip ?_;refine GE_ret Tryz.func89 rfl (fun w hw => ?_)
    first
    | (obtain ⟨h3, h4⟩ := leafT (G := G) (x := x.least) hy.1 (by first | exact .inl (by assumption) | exact .inr (by assumption)) hS8 h1; exact ⟨{ x with least := y.1.1, bv := .slice yc.1 G.length yc.2.1, ob := y.2.1, f := y.2.2 }, ⟨⟨hx.len, hx.own, hx.sown, hx.sets, hy.2.1, hy.2.2, ⟨h3.1, h3.2.1⟩⟩, h3, h4⟩, rfl, hw.hs (C := cx Tryz.prog hm 0 0 w0 none' fun _ _ => True) (HS.cons rfl (HS.cons rfl (HS.cons rfl (HS.cons rfl (HS.cons rfl (HS.cons rfl (HS.cons rfl (HS.cons rfl (HS.cons rfl (HS.chunk (HS.chunk HS.nil)))))))))))⟩)
    | (obtain ⟨h3, h4⟩ := leafF (G := G) (x := x.least) hy.1 hx.bd (by first | exact .inl (by assumption) | exact .inr ⟨by assumption, by assumption⟩) h1; exact ⟨{ x with ob := y.2.1, f := y.2.2 }, ⟨⟨hx.len, hx.own, hx.sown, hx.sets, hy.2.1, hy.2.2, hx.bd⟩, h3, h4⟩, rfl, hw.hs (C := cx Tryz.prog hm 0 0 w0 none' fun _ _ => True) (HS.cons rfl (HS.cons rfl (HS.cons rfl (HS.cons rfl (HS.cons rfl (HS.cons rfl (HS.cons rfl (HS.cons rfl (HS.cons rfl (HS.chunk (HS.chunk HS.nil)))))))))))⟩)
end
end Go.Proofs.YtpbflnfcgcldkaaGreatDoor.Slv
/- The best gang: a step of the search, walked. -/
namespace Go.Proofs.YtpbflnfcgcldkaaGreatDoor.Slv
open Go.Sx Go.Proofs Go.RowKit
open Side (eN eN_len eN_one getD_memT sh_trans)
def sL (S : List Nat) (k : Nat) : List Nat := if k = S.length then S ++ [0] else S
def sU (S : List Nat) (k i : Nat) : List Nat := (sL S k).set k ((sL S k).getD k default + 2 ^ i)
theorem sL_lt {S : List Nat} {k : Nat} (h : k ≤ S.length) : k < (sL S k).length := by
  unfold sL; split
  · rw [List.length_append, List.length_singleton]; omega
  · omega
theorem sL_le (S : List Nat) (k : Nat) : S.length ≤ (sL S k).length ∧ (sL S k).length ≤ S.length + 1 := by unfold sL; split <;> simp
theorem sL_eq {S : List Nat} : sL S S.length = S ++ [0] := if_pos rfl
theorem sL_ne {S : List Nat} {k : Nat} (h : ¬ k = S.length) : sL S k = S := if_neg h
theorem sL_bd {S : List Nat} {k i : Nat} (h : SetsOk S i) : ∀ x ∈ sL S k, x < 2 ^ i := fun x hx => by
  unfold sL at hx; split at hx
  · rcases List.mem_append.1 hx with q | q
    · exact h.2 x q
    · rw [List.mem_singleton] at q; subst q; exact Nat.pos_of_ne_zero (by simp)
  · exact h.2 x hx
theorem sU_len (S : List Nat) (k i : Nat) : (sU S k i).length = (sL S k).length := List.length_set ..
theorem sU_ok {S : List Nat} {k i : Nat} (h : SetsOk S i) (hk : k ≤ S.length) : SetsOk (sU S k i) (i + 1) := by
  refine ⟨by rw [sU_len]; have := (sL_le S k).2; have := h.1; omega, fun x hx => ?_⟩
  have h2 := sL_bd (k := k) h
  have e : 2 ^ (i + 1) = 2 ^ i + 2 ^ i := by rw [Nat.pow_succ]; omega
  rcases List.mem_or_eq_of_mem_set hx with q | rfl
  · have := h2 x q; omega
  · have := h2 _ (getD_memT (sL_lt hk)); omega
theorem sU_at {S : List Nat} {k i : Nat} (hk : k ≤ S.length) : (sU S k i).getD k default = (sL S k).getD k default + 2 ^ i := by
  have := sL_lt hk
  simp [sU, List.getD, this]
theorem nats_set (S : List Nat) (k x : Nat) : (nats S).set k (x : Int) = nats (S.set k x) := by simp [nats, List.map_set]
theorem nats_at {S : List Nat} {k : Nat} (h : k < S.length) : (nats S).getD k default = ((S.getD k default : Nat) : Int) := by simp [nats, List.getD, h]
theorem sU_back {S : List Nat} {k i : Nat} (hk : k ≤ S.length) : (sU S k i).set k ((sL S k).getD k default) = sL S k := by
  have := sL_lt hk
  rw [sU, List.set_set]
  apply List.ext_getElem?
  intro j
  rw [List.getElem?_set]
  by_cases e : k = j
  · subst e; simp [this, List.getD]
  · simp [e]
theorem first_step {G : List Int} {S : List Nat} {i : Nat} (h1 : G = List.replicate i 0) (h2 : S = full i) : G ++ [((0 : Nat) : Int)] = List.replicate (i + 1) 0 ∧ sU S 0 i = full (i + 1) := by
  constructor
  · rw [h1, List.replicate_succ']; rfl
  · rw [← full_snoc, h2]
    have e : sL (full i) 0 = full i ++ if i = 0 then [0] else [] := by
      unfold sL full
      by_cases h : i = 0
      · subst h; rfl
      · simp [h]
    rw [sU, e]
    rfl
theorem own_le {e : TypeId} {l : List Int} {A : Option Addr} {n c : Nat} {I : Items} (h : Own 1 e eN l (.slice A n c) I) : l.length ≤ c := by
  obtain ⟨A', c', h1, h2⟩ := h.form
  cases h1; exact h2
theorem sL_pre {S : List Nat} {k : Nat} {A : Option Addr} {c : Nat} {I : Items} (hk : k ≤ S.length) (h : Own 1 3 eN (nats (sL S k)) (.slice A (sL S k).length c) I) : Own 1 3 eN (nats S) (.slice A S.length c) I := by
  by_cases e : k = S.length
  · subst e
    rw [sL_eq] at h
    have h2 : Own 1 3 eN (nats S ++ [((0 : Nat) : Int)]) (.slice A (nats S ++ [((0 : Nat) : Int)]).length c) I := by
      have e1 : nats (S ++ [0]) = nats S ++ [((0 : Nat) : Int)] := by simp [nats]
      rw [← e1, nats_len]; exact h
    have := Own.pre h2 eN_len (by simp)
    rwa [nats_len] at this
  · rw [sL_ne e] at h; exact h
theorem nats_snoc (S : List Nat) : nats S ++ [0] = nats (S ++ [0]) := by simp [nats]
section
variable {w0 : World} {e : GB} {i : Nat}
set_option maxRecDepth 20000 in
set_option maxHeartbeats 1000000 in
theorem C_nextStep (he : e.Ok w0) (hi : i < e.l.length) (hn : NextC e w0 (i + 1)) : NextC e w0 i := by
  intro w G S x m hx
  obtain rfl := hx.len
  have h8 := he.cop.1
  have h1 := he.one
  have hS8 : S.length ≤ 8 := Nat.le_trans hx.sets.1 (by omega)
  have hp8 : 2 ^ G.length < 2 ^ 61 := Nat.pow_lt_pow_right (by decide) (by omega)
  refine Ret_ofH (vs := [_, _, _, _, _, _, _]) hm none' Tryz.func89 rfl Tryz.ntmps89 rfl m ?_
  dsimp only [slotsOf]
  refine GE_seq ?_;refine GE_plain (.st 0 (.st 1 (.st 2 .nil))) rfl ?_;refine GT_st rfl rfl rfl rfl (V_load rfl rfl ag_38 (CellAt.item rfl)) ?_;refine GT_st rfl rfl rfl rfl (V_len rfl Tryz.underlying38 rfl) ?_;refine GT_st rfl rfl rfl rfl (V_assign rfl rfl) ?_;refine GT_nil ?_;refine GE_seq ?_;refine GE_seq ?_;refine GE_plain (.st 0 (.st 1 (.st 2 (.st 3 .nil)))) rfl ?_;refine GT_st rfl rfl rfl rfl (V_move rfl rfl) ?_;refine GT_st rfl rfl rfl rfl (V_load rfl rfl ag_43 (CellAt.item rfl)) ?_;refine GT_st rfl rfl rfl rfl (V_len rfl Tryz.underlying43 rfl) ?_;refine GT_st rfl rfl rfl rfl (V_isF (V_eql rfl rfl rfl) (by omega)) ?_;refine GT_nil ?_;refine GE_cond_f rfl ?_;refine GE_skip ?_;refine GE_seq ?_;refine GE_slots (L' := [(0, _), (3, _), (6, _), (7, _)]) ⟨rfl, rfl, rfl, rfl, trivial⟩ ?_;refine GE_plain (.st 0 (.st 1 (.st 2 (.st 3 .nil)))) rfl ?_;refine GT_st rfl rfl rfl rfl (V_load rfl rfl ag_38 (CellAt.item rfl)) ?_;refine GT_st rfl rfl rfl rfl (V_len rfl Tryz.underlying38 rfl) ?_;refine GT_st rfl rfl rfl rfl (V_add rfl rfl rfl (wrap_i64 (by omega))) ?_;refine GT_st rfl rfl rfl rfl (V_move rfl rfl) ?_;refine GT_nil ?_;refine GE_block ?_;refine GE_to (GE_loop (ι := Nat × NS) (fun z => S.length + 1 - z.1) (fun z => [(0, ptr e.b0 0), (3, ptr e.b3 0), (6, ptr e.b6 0), (7, I G.length), (39, I (S.length + 1)), (40, I z.1)]) (fun z => e.H G.length S.length z.2) (fun z => z.1 ≤ S.length + 1 ∧ GS e G S G.length z.2 ∧ StepR x.least z.2.least ∧ (z.1 = 0 → z.2.least = x.least) ∧ (1 ≤ z.1 → FirstR e.l e.s e.pl G S G.length x.least z.2.least)) ?_ (0, x) ?_) ⟨rfl, rfl, rfl, rfl, rfl, rfl, trivial⟩ HS.all
  · rintro ⟨k, y⟩ ⟨hkz, hy, hst, hf0, hf1⟩ ih; dsimp only at hkz hy hst hf0 hf1 ih ⊢
    refine GE_seq ?_;refine GE_plain (.st 0 .nil) rfl ?_;refine GT_st rfl rfl rfl rfl (V_lss rfl rfl rfl) ?_;refine GT_nil ?_;refine GE_seq ?_;refine GE_cond rfl (fun q1 => ?_) (fun q1 => ?_)
    · have hks : k ≤ S.length := (by omega); have hlt := sL_lt hks; have hle := sL_le S k; have hgl : (G ++ [(k : Int)]).length = G.length + 1 := (by rw [List.length_append]; rfl); have hsU := sU_len S k G.length; have hbd := sL_bd (k := k) hx.sets _ (getD_memT hlt); have hnl := nats_len (sL S k); have hnl2 := nats_len (sU S k G.length)
      refine GE_skip ?_;refine GE_seq ?_;refine GE_block ?_;refine GE_seq ?_;refine GE_plain (.st 0 (.st 1 .nil)) rfl ?_;refine GT_st rfl rfl rfl rfl (V_move rfl rfl) ?_;refine GT_st rfl rfl rfl rfl (V_assign rfl rfl) ?_;refine GT_nil ?_;refine GE_seq ?_;refine GE_plain (.st 0 (.st 1 (.ld 2 [] (.ld 3 [] (.ld 4 [] .nil))))) rfl ?_;refine GT_st rfl rfl rfl rfl (V_load rfl rfl ag_38 (CellAt.item rfl)) ?_;refine GT_st rfl rfl rfl rfl (V_move rfl rfl) ?_;refine GT_buildSlice (z := [_]) rfl rfl rfl rfl rfl Tryz.underlying38 zc_3 sz_3 (by decide) rfl rfl (fun _ => GR_nil) (fun b45 => ?_)
      refine GT_append (enc := eN) (l := G) (m := [(k : Int)]) rfl rfl rfl rfl rfl rfl rfl hy.own (fun w m => RdL.own' m eN_len) Tryz.underlying38 zc_3 sz_3 ⟨rfl, by decide⟩ by_3 ⟨by simp only [List.length_singleton]; omega, by simp only [List.length_singleton]; omega⟩ eN_len eN_one (fun _ _ _ _ => GR_nil) (fun A4 c4 I4 hO4 => ?_)
      rw [hgl] at hO4 ⊢
      refine GT_store (vs := [_]) (l' := [_]) rfl rfl rfl rfl rfl rfl rfl sz_38 rfl rfl (Nat.le_of_ble_eq_true rfl) rfl (GR_nil) ?_;refine GT_nil ?_;refine GE_seq ?_;refine GE_slots (L' := [(0, _), (3, _), (6, _), (7, _), (10, _), (39, _), (40, _)]) ⟨rfl, rfl, rfl, rfl, rfl, rfl, rfl, trivial⟩ ?_;refine GE_plain (.st 0 (.st 1 (.st 2 .nil))) rfl ?_;refine GT_st rfl rfl rfl rfl (V_load rfl rfl ag_38 (CellAt.item rfl)) ?_;refine GT_st rfl rfl rfl rfl (V_len rfl Tryz.underlying38 rfl) ?_;refine GT_st rfl rfl rfl rfl (V_assign rfl rfl) ?_;refine GT_nil ?_;refine GE_cut (ι := Option Addr × Nat × Items) (fun u => [(0, ptr e.b0 0), (3, ptr e.b3 0), (6, ptr e.b6 0), (7, I G.length), (10, I k), (11, I S.length), (39, I (S.length + 1)), (40, I k)]) (fun u => e.H (G.length + 1) (sL S k).length { y with A0 := A4, c0 := c4, I0 := I4, A3 := u.1, c3 := u.2.1, I3 := u.2.2 }) (fun u => Own 1 3 eN (nats (sL S k)) (.slice u.1 (sL S k).length u.2.1) u.2.2) ?_ (fun hk => ?_)
      · rintro ⟨A5, c5, I5⟩ hO5; dsimp only at hO5 ⊢
        refine GE_seq ?_;refine GE_drawn (.st 0 (.st 1 (.st 2 (.st 3 (.st 4 (.st 5 (.st 6 (.st 7 (.ld 8 [] .nil))))))))) [8] (by decide +kernel) ?_;refine GT_st rfl rfl rfl rfl (V_load rfl rfl ag_38 (CellAt.item rfl)) ?_;refine GT_st rfl rfl rfl rfl (V_move rfl rfl) ?_;refine GT_st rfl rfl rfl rfl (V_index rfl rfl rfl Tryz.underlying38 sz_3 (k := k) rfl hlt (hO5.isSome (k := k) (by omega))) ?_;refine GT_st rfl rfl rfl rfl (V_load rfl rfl ag_3 (CellAt.own0 (k := k) hO5 eN_len (by omega) (by rw [nats_at hlt]; rfl))) ?_;refine GT_st rfl rfl rfl rfl (V_move rfl rfl) ?_;refine GT_st rfl rfl rfl rfl (V_shl (s := G.length) (z := ((2 ^ G.length : Nat) : Int)) rfl rfl rfl (by show G.length ≤ 64; omega) (by rw [Int.one_mul]; have := wrapN (a := 2 ^ G.length) (by omega); rwa [Int.natCast_pow] at this ⊢)) ?_;refine GT_st rfl rfl rfl rfl (V_orN (p := (sL S k).getD k default) (q := 2 ^ G.length) (z := (((sL S k).getD k default + 2 ^ G.length : Nat) : Int)) rfl rfl rfl rfl rfl ⟨by omega, by omega⟩ (by rw [set_bit hbd])) ?_;refine GT_st rfl rfl rfl rfl (V_index rfl rfl rfl Tryz.underlying38 sz_3 (k := k) rfl hlt (hO5.isSome (k := k) (by omega))) ?_;refine GT_storeOwn (enc := eN) (q := k) (xx := (((sL S k).getD k default + 2 ^ G.length : Nat) : Int)) rfl rfl rfl rfl rfl rfl rfl sz_3 hO5 eN_len eN_one (by omega) (by decide) (fun _ _ => GR_nil) (fun I6 hO6 => ?_)
        refine GT_nil ?_;refine GE_seq ?_;refine GE_slots (L' := [(0, _), (3, _), (6, _), (7, _), (10, _), (11, _), (39, _), (40, _)]) ⟨rfl, rfl, rfl, rfl, rfl, rfl, rfl, rfl, trivial⟩ ?_
        rw [nats_set] at hO6
        refine GE_plain (.st 0 (.ld 1 [] .nil)) rfl ?_;refine GT_st rfl rfl rfl rfl (V_load rfl rfl ag_1 (CellAt.item rfl)) ?_;refine GT_callX rfl rfl rfl rfl rfl rfl rfl rfl rn_89 (fun w m => hn w (G ++ [(k : Int)]) (sU S k G.length) { y with A0 := A4, c0 := c4, I0 := I4, A3 := A5, c3 := c5, I3 := I6 } (by rw [hgl, hsU]; exact m.hs (C := cx Tryz.prog hm 0 0 w0 none' fun _ _ => True) (HS.cons rfl (HS.cons rfl (HS.cons rfl (HS.cons rfl (HS.cons rfl (HS.cons rfl (HS.cons rfl (HS.cons rfl (HS.cons rfl (HS.chunk (HS.chunk HS.nil)))))))))))) ⟨hgl, by rw [hgl]; exact hO4, by rw [hsU]; exact hO6, sU_ok hx.sets hks, hy.map, hy.kn, hy.bd⟩) (fun _ _ => GR_nil) (fun y2 hy2 => ?_)
        rw [hgl, hsU]; have hO7 := hy2.1.sown; rw [hsU] at hO7; have hO8 := own_le hy2.1.own; rw [hgl] at hO8; have hO10 := own_le hO7; rw [hnl2] at hO10
        refine GT_nil ?_;refine GE_seq ?_;refine GE_drawn (.st 0 (.st 1 (.st 2 (.st 3 (.st 4 (.st 5 (.st 6 (.st 7 (.ld 8 [] .nil))))))))) [8] (by decide +kernel) ?_;refine GT_st rfl rfl rfl rfl (V_load rfl rfl ag_38 (CellAt.item rfl)) ?_;refine GT_st rfl rfl rfl rfl (V_move rfl rfl) ?_;refine GT_st rfl rfl rfl rfl (V_index rfl rfl rfl Tryz.underlying38 sz_3 (k := k) rfl hlt (hO7.isSome (k := k) (by omega))) ?_;refine GT_st rfl rfl rfl rfl (V_load rfl rfl ag_3 (CellAt.own0 (k := k) hO7 eN_len (by omega) (by rw [nats_at (by omega), sU_at hks]; rfl))) ?_;refine GT_st rfl rfl rfl rfl (V_move rfl rfl) ?_;refine GT_st rfl rfl rfl rfl (V_shl (s := G.length) (z := ((2 ^ G.length : Nat) : Int)) rfl rfl rfl (by show G.length ≤ 64; omega) (by rw [Int.one_mul]; have := wrapN (a := 2 ^ G.length) (by omega); rwa [Int.natCast_pow] at this ⊢)) ?_;refine GT_st rfl rfl rfl rfl (V_andNotN (p := (sL S k).getD k default + 2 ^ G.length) (q := 2 ^ G.length) (z := (((sL S k).getD k default : Nat) : Int)) rfl rfl rfl rfl rfl ⟨by omega, by omega⟩ (by rw [clr_bit hbd (by omega)])) ?_;refine GT_st rfl rfl rfl rfl (V_index rfl rfl rfl Tryz.underlying38 sz_3 (k := k) rfl hlt (hO7.isSome (k := k) (by omega))) ?_;refine GT_storeOwn (enc := eN) (q := k) (xx := (((sL S k).getD k default : Nat) : Int)) rfl rfl rfl rfl rfl rfl rfl sz_3 hO7 eN_len eN_one (by omega) (by decide) (fun _ _ => GR_nil) (fun I9 hO9 => ?_)
        refine GT_nil ?_;refine GE_slots (L' := [(0, _), (3, _), (6, _), (7, _), (11, _), (39, _), (40, _)]) ⟨rfl, rfl, rfl, rfl, rfl, rfl, rfl, trivial⟩ ?_
        rw [nats_set, sU_back hks] at hO9; have hfin : FirstR e.l e.s e.pl G S G.length x.least y2.least := (Nat.eq_zero_or_pos k).elim (fun q => by subst q; intro a1 a2 a3; have a4 := first_step a1 a2; exact hy2.2.2 a4.1 a4.2 ((hf0 rfl).trans a3)) (fun q => (hf1 q).step hy2.2.1)
        refine GE_drawn (.st 0 (.st 1 (.st 2 (.st 3 (.st 4 (.st 5 (.ld 6 [3, 4, 5] (.ld 7 [] .nil)))))))) [6, 7] (by decide +kernel) ?_;refine GT_st rfl rfl rfl rfl (V_load rfl rfl ag_38 (CellAt.item rfl)) ?_;refine GT_st rfl rfl rfl rfl (V_move rfl rfl) ?_;refine GT_st rfl rfl rfl rfl (V_sliceTo rfl rfl rfl Tryz.underlying38 (by rw [sz_3]; rfl) (by omega)) ?_;refine GT_st rfl rfl rfl rfl (V_load rfl rfl ag_38 (CellAt.item rfl)) ?_;refine GT_st rfl rfl rfl rfl (V_move rfl rfl) ?_;refine GT_st rfl rfl rfl rfl (V_sliceTo rfl rfl rfl Tryz.underlying38 (by rw [sz_3]; rfl) (by omega)) ?_;refine GT_store (vs := [_]) (l' := [_]) rfl rfl rfl rfl rfl rfl rfl sz_38 rfl rfl (Nat.le_of_ble_eq_true rfl) rfl (GR_cons rfl rfl rfl rfl (V_load rfl rfl ag_38 (CellAt.item rfl)) (GR_cons rfl rfl rfl rfl (V_move rfl rfl) (GR_cons rfl rfl rfl rfl (V_sliceTo rfl rfl rfl Tryz.underlying38 (by rw [sz_3]; rfl) (by omega)) (GR_nil)))) ?_;refine GT_store (vs := [_]) (l' := [_]) rfl rfl rfl rfl rfl rfl rfl sz_38 rfl rfl (Nat.le_of_ble_eq_true rfl) rfl (GR_nil) ?_;refine GT_nil ?_;refine GE_inBlock ?_;refine GE_slots (L' := [(0, _), (3, _), (6, _), (7, _), (39, _), (40, _)]) ⟨rfl, rfl, rfl, rfl, rfl, rfl, trivial⟩ ?_;refine GE_plain (.st 0 (.ld 1 [] .nil)) rfl ?_;refine GT_st rfl rfl rfl rfl (V_add rfl rfl rfl (wrap_i64 (by omega))) ?_;refine GT_ldv rfl rfl rfl rfl rfl (V_move rfl rfl) (GR_nil) ?_;refine GT_nil ?_
        exact GE_to (ih (k + 1, { y2 with I3 := I9 }) ⟨by dsimp only; omega, ⟨rfl, Own.pre hy2.1.own eN_len (by rw [hgl]; omega), sL_pre hks hO9, hx.sets, hy2.1.map, hy2.1.kn, hy2.1.bd⟩, hst.trans hy2.2.1, fun h => (by cases h), fun _ => hfin⟩ (by dsimp only; omega)) ⟨rfl, rfl, rfl, rfl, rfl, rfl, trivial⟩ (HS.cons rfl (HS.cons rfl (HS.cons rfl (HS.cons rfl (HS.cons rfl (HS.cons rfl (HS.cons rfl (HS.cons rfl (HS.cons rfl (HS.chunk (HS.chunk HS.nil)))))))))))
      · refine GE_seq ?_;refine GE_plain (.st 0 (.st 1 (.st 2 .nil))) rfl ?_;refine GT_st rfl rfl rfl rfl (V_move rfl rfl) ?_;refine GT_st rfl rfl rfl rfl (V_move rfl rfl) ?_;refine GT_st rfl rfl rfl rfl (V_eql rfl rfl rfl) ?_;refine GT_nil ?_;refine GE_cond rfl (fun q2 => ?_) (fun q2 => ?_)
        · obtain rfl : k = S.length := (by omega)
          refine GE_slots (L' := [(0, _), (3, _), (6, _), (7, _), (10, _), (11, _), (39, _), (40, _)]) ⟨rfl, rfl, rfl, rfl, rfl, rfl, rfl, rfl, trivial⟩ ?_;refine GE_plain (.st 0 (.ld 1 [] (.ld 2 [] (.ld 3 [] .nil)))) rfl ?_;refine GT_st rfl rfl rfl rfl (V_load rfl rfl ag_38 (CellAt.item rfl)) ?_;refine GT_buildSlice (z := [_]) rfl rfl rfl rfl rfl Tryz.underlying38 zc_3 sz_3 (by decide) rfl rfl (fun _ => GR_nil) (fun b53 => ?_)
          refine GT_append (enc := eN) (l := nats S) (m := [0]) rfl rfl rfl rfl rfl rfl rfl hy.sown (fun w m => RdL.own' m eN_len) Tryz.underlying38 zc_3 sz_3 ⟨rfl, by decide⟩ by_3 ⟨by rw [nats_len]; simp only [List.length_singleton]; omega, by rw [nats_len]; simp only [List.length_singleton]; omega⟩ eN_len eN_one (fun _ _ _ _ => GR_nil) (fun A5 c5 I5 hO5 => ?_)
          rw [nats_snoc, nats_len, ← sL_eq] at hO5 ⊢
          refine GT_store (vs := [_]) (l' := [_]) rfl rfl rfl rfl rfl rfl rfl sz_38 rfl rfl (Nat.le_of_ble_eq_true rfl) rfl (GR_nil) ?_;refine GT_nil ?_
          first
            | exact GE_to (hk (A5, c5, I5) hO5) ⟨rfl, rfl, rfl, rfl, rfl, rfl, rfl, rfl, trivial⟩ (HS.cons rfl (HS.cons rfl (HS.cons rfl (HS.cons rfl (HS.cons rfl (HS.cons rfl (HS.cons rfl (HS.cons rfl (HS.cons rfl (HS.chunk (HS.chunk HS.nil)))))))))))
            | exact GE_to (hk (y.A3, y.c3, y.I3) (by rw [sL_ne hkne]; exact hy.sown)) ⟨rfl, rfl, rfl, rfl, rfl, rfl, rfl, rfl, trivial⟩ (HS.cons rfl (HS.cons rfl (HS.cons rfl (HS.cons (by rw [sL_ne hkne]) (HS.cons rfl (HS.cons rfl (HS.cons rfl (HS.cons rfl (HS.cons rfl (HS.chunk (HS.chunk HS.nil)))))))))))
        · have hkne : ¬ k = S.length := (by omega)
          refine GE_skip ?_
          first
            | exact GE_to (hk (A5, c5, I5) hO5) ⟨rfl, rfl, rfl, rfl, rfl, rfl, rfl, rfl, trivial⟩ (HS.cons rfl (HS.cons rfl (HS.cons rfl (HS.cons rfl (HS.cons rfl (HS.cons rfl (HS.cons rfl (HS.cons rfl (HS.cons rfl (HS.chunk (HS.chunk HS.nil)))))))))))
            | exact GE_to (hk (y.A3, y.c3, y.I3) (by rw [sL_ne hkne]; exact hy.sown)) ⟨rfl, rfl, rfl, rfl, rfl, rfl, rfl, rfl, trivial⟩ (HS.cons rfl (HS.cons rfl (HS.cons rfl (HS.cons (by rw [sL_ne hkne]) (HS.cons rfl (HS.cons rfl (HS.cons rfl (HS.cons rfl (HS.cons rfl (HS.chunk (HS.chunk HS.nil)))))))))))
    · obtain rfl : k = S.length + 1 := (by omega)
      refine GE_exit rfl ?_;refine GE_end Tryz.func89 rfl (fun w hw => ?_)
      exact ⟨y, ⟨hy, hst, hf1 (by omega)⟩, rfl, hw⟩
  · exact ⟨Nat.zero_le _, hx, StepR.refl hx.bd, fun _ => rfl, fun h => absurd h (by dsimp only; omega)⟩
end
end Go.Proofs.YtpbflnfcgcldkaaGreatDoor.Slv
/- The best gang, and the cost of one plate, walked. -/
namespace Go.Proofs.YtpbflnfcgcldkaaGreatDoor.Slv
open Go.Sx Go.Proofs Go.RowKit
open Side (eN eN_len eN_one getD_memT sh_trans)
section
variable {w w0 : World} {e : GB} {A A2 : Option Addr} {c c2 : Nat} {l : List Int} {s pl : Int}
theorem C_next (he : e.Ok w0) : ∀ (q i : Nat), i + q = e.l.length → NextC e w0 i
  | 0, i, h => by obtain rfl : i = e.l.length := by omega
                  exact C_nextLeaf he
  | q + 1, i, h => C_nextStep he (by omega) (C_next he q (i + 1) (by omega))
set_option maxRecDepth 20000 in
theorem C_Gang (hr : RdL w 1 eN A l) (hc : CopOk l) (h1 : 1 ≤ l.length) (hs : 1 ≤ s ∧ s ≤ 64) (hpl : 0 ≤ pl ∧ pl ≤ 1048576) :
    Con Tryz.prog 38 [.slice A l.length c, I s, I pl] w (fun y : Value × Int => StepR (-1) y.2 ∧ FirstR l s pl [] [] 0 (-1) y.2) (fun y => .tuple #[y.1, I y.2, I 0]) (fun _ => []) := by
  refine Ret_of (vs := [_, _, _]) hm none' Tryz.func38 rfl Tryz.ntmps38 rfl ?_
  dsimp only [slotsOf]
  refine GE_seq ?_;refine GE_plain (.ld 0 [] (.st 1 (.st 2 (.st 3 .nil)))) rfl ?_;refine GT_box (z := [_]) rfl rfl rfl rfl rfl rfl rfl (fun _ => GR_nil) (fun b3 => ?_)
  refine GT_st rfl rfl rfl rfl (V_assign rfl rfl) ?_;refine GT_st rfl rfl rfl rfl (V_assign rfl rfl) ?_;refine GT_st rfl rfl rfl rfl (V_assign rfl rfl) ?_;refine GT_nil ?_;refine GE_seq ?_;refine GE_seq ?_;refine GE_slots (L' := [(1, _), (2, _), (3, _)]) ⟨rfl, rfl, rfl, trivial⟩ ?_;refine GE_plain (.st 0 (.st 1 (.st 2 (.ld 3 [] (.st 4 .nil))))) rfl ?_;refine GT_st rfl rfl rfl rfl (V_load rfl rfl ag_43 (CellAt.item rfl)) ?_;refine GT_st rfl rfl rfl rfl (V_move rfl rfl) ?_;refine GT_st rfl rfl rfl rfl (V_move rfl rfl) ?_;refine GT_call0 rfl rfl rfl rfl rfl rfl rfl rfl rn_85 (fun w hw => C_CheckCopies (hr.sh hw) hc hs hpl) (GR_nil) ?_;refine GT_st rfl rfl rfl rfl (V_assign rfl rfl) ?_;refine GT_nil ?_;refine GE_seq ?_;refine GE_slots (L' := [(1, _), (2, _), (3, _), (9, _)]) ⟨rfl, rfl, rfl, rfl, trivial⟩ ?_;refine GE_plain (.st 0 (.st 1 .nil)) rfl ?_;refine GT_st rfl rfl rfl rfl (V_move rfl rfl) ?_;refine GT_st rfl rfl rfl rfl (V_isF (V_neq rfl rfl rfl) (fun q => q rfl)) ?_;refine GT_nil ?_;refine GE_cond_f rfl ?_;refine GE_skip ?_;refine GE_seq ?_;refine GE_plain (.st 0 (.st 1 (.st 2 (.ld 3 [] (.st 4 (.ld 5 [] (.ld 6 [] (.ld 7 [] .nil)))))))) rfl ?_;refine GT_st rfl rfl rfl rfl (V_load rfl rfl ag_43 (CellAt.item rfl)) ?_;refine GT_st rfl rfl rfl rfl (V_move rfl rfl) ?_;refine GT_st rfl rfl rfl rfl (V_move rfl rfl) ?_;refine GT_makeMapM kI kI rfl rfl rfl rfl rfl (fun _ _ => GR_nil) (fun b26 ob hob => ?_)
  refine GT_st rfl rfl rfl rfl (V_build (vs := [_, _, _, _]) rfl rfl zc_215 pl_215 sa_215 rfl) ?_;refine GT_box (z := [_, _, _, _]) rfl rfl rfl rfl rfl rfl rfl (fun _ => GR_nil) (fun b28 => ?_)
  refine GT_alloc rfl rfl rfl rfl rfl zc_212 (fun _ => GR_nil) (fun b10 => ?_)
  refine GT_store (vs := [_]) (l' := [_]) rfl rfl rfl rfl rfl rfl rfl sz_212 rfl rfl (Nat.le_of_ble_eq_true rfl) rfl (GR_nil) ?_;refine GT_nil ?_;refine GE_seq ?_;refine GE_slots (L' := [(3, _), (10, _)]) ⟨rfl, rfl, trivial⟩ ?_;refine GE_plain (.ld 0 [] (.ld 1 [] (.ld 2 [] .nil))) rfl ?_;refine GT_alloc rfl rfl rfl rfl rfl zc_38 (fun _ => GR_nil) (fun b11 => ?_)
  refine GT_alloc rfl rfl rfl rfl rfl zc_38 (fun _ => GR_nil) (fun b12 => ?_)
  refine GT_alloc rfl rfl rfl rfl rfl zc_38 (fun _ => GR_nil) (fun b13 => ?_)
  refine GT_nil ?_;refine GE_seq ?_;refine GE_plain (.ld 0 [] (.ld 1 [] .nil)) rfl ?_;refine GT_alloc rfl rfl rfl rfl rfl zc_2 (fun _ => GR_nil) (fun b14 => ?_)
  refine GT_store (vs := [_]) (l' := [_]) rfl rfl rfl rfl rfl rfl rfl sz_2 rfl rfl (Nat.le_of_ble_eq_true rfl) rfl (GR_nil) ?_;refine GT_nil ?_;refine GE_seq ?_;refine GE_plain (.ld 0 [] .nil) rfl ?_;refine GT_alloc rfl rfl rfl rfl rfl zc_1 (fun _ => GR_nil) (fun b15 => ?_)
  refine GT_nil ?_;refine GE_seq ?_;refine GE_plain (.st 0 (.ld 1 [] .nil)) rfl ?_;refine GT_st rfl rfl rfl rfl (V_makeFunc rfl rfl rfl) ?_;refine GT_store (vs := [_]) (l' := [_]) rfl rfl rfl rfl rfl rfl rfl sz_1 rfl rfl (Nat.le_of_ble_eq_true rfl) rfl (GR_nil) ?_;refine GT_nil ?_;refine GE_seq ?_;refine GE_slots (L' := [(11, _), (14, _), (15, _)]) ⟨rfl, rfl, rfl, trivial⟩ ?_;refine GE_plain (.st 0 (.ld 1 [] .nil)) rfl ?_;refine GT_st rfl rfl rfl rfl (V_load rfl rfl ag_1 (CellAt.item rfl)) ?_;refine GT_callX rfl rfl rfl rfl rfl rfl rfl rfl rn_89 (fun w m => C_next (e := ⟨b12, b3, b10, b13, b14, b11, b15, b28, b26, A, c, l, s, pl⟩) ⟨hr, hc, h1, hs, hpl⟩ l.length 0 (Nat.zero_add _) w [] [] ⟨none, 0, [], none, 0, [], -1, .slice none 0 0, ob, fun _ => none⟩ (m.hs (C := cx Tryz.prog hm 0 0 _ none' fun _ _ => True) (HS.cons rfl (HS.cons rfl (HS.cons rfl (HS.cons rfl (HS.cons rfl (HS.cons rfl (HS.cons rfl (HS.cons rfl (HS.cons rfl HS.nil)))))))))) ⟨rfl, Own.nil, Own.nil, ⟨Nat.le_refl _, fun x hx => by cases hx⟩, hob, KnR.nil, ⟨Int.le_refl _, show (-1 : Int) ≤ 100000000 by decide⟩⟩) (fun _ _ => GR_nil) (fun y hy => ?_)
  refine GT_nil ?_;refine GE_seq ?_;refine GE_drawn (.st 0 (.st 1 (.st 2 (.st 3 (.st 4 .nil))))) [] (by decide +kernel) ?_;refine GT_st rfl rfl rfl rfl (V_load rfl rfl ag_38 (CellAt.item rfl)) ?_;refine GT_st rfl rfl rfl rfl (V_load rfl rfl ag_2 (CellAt.item rfl)) ?_;refine GT_st rfl rfl rfl rfl (V_assign rfl rfl) ?_;refine GT_st rfl rfl rfl rfl (V_assign rfl rfl) ?_;refine GT_st rfl rfl rfl rfl (V_assign rfl rfl) ?_;refine GT_nil ?_;refine GE_ret Tryz.func38 ⟨_, _, _, rfl, rfl, rfl, rfl⟩ (fun w hw => ?_)
  exact ⟨(y.bv, y.least), ⟨hy.2.1, hy.2.2⟩, rfl, hw.nil⟩
set_option maxRecDepth 20000 in
theorem C_Cost0 (hr : RdL w 1 eN A l) (hc : CopOk l) (h1 : 1 ≤ l.length) (hs : 1 ≤ s ∧ s ≤ 64) (hpl : 0 ≤ pl ∧ pl ≤ 1048576) (hg : RdL w 1 eN A2 (List.replicate l.length 0)) :
    Con Tryz.prog 37 [.slice A l.length c, I s, I pl, .slice A2 l.length c2] w (fun y : Int × Bool => SumR l s pl (full l.length) y) (fun y => .tuple #[I (if y.2 then y.1 else 0), I (if y.2 then 0 else 14)]) (fun _ => []) := by
  have h8 := hc.1
  have hrl : (List.replicate l.length (0 : Int)).length = l.length := List.length_replicate
  refine Ret_of (vs := [_, _, _, _]) hm none' Tryz.func37 rfl Tryz.ntmps37 rfl ?_
  dsimp only [slotsOf]
  refine GE_seq ?_;refine GE_plain (.st 0 (.st 1 .nil)) rfl ?_;refine GT_st rfl rfl rfl rfl (V_assign rfl rfl) ?_;refine GT_st rfl rfl rfl rfl (V_assign rfl rfl) ?_;refine GT_nil ?_;refine GE_seq ?_;refine GE_seq ?_;refine GE_plain (.st 0 (.st 1 (.st 2 (.ld 3 [] (.st 4 .nil))))) rfl ?_;refine GT_st rfl rfl rfl rfl (V_move rfl rfl) ?_;refine GT_st rfl rfl rfl rfl (V_move rfl rfl) ?_;refine GT_st rfl rfl rfl rfl (V_move rfl rfl) ?_;refine GT_call0 rfl rfl rfl rfl rfl rfl rfl rfl rn_85 (fun w hw => C_CheckCopies (hr.sh hw) hc hs hpl) (GR_nil) ?_;refine GT_st rfl rfl rfl rfl (V_assign rfl rfl) ?_;refine GT_nil ?_;refine GE_seq ?_;refine GE_slots (L' := [(0, _), (1, _), (2, _), (3, _), (10, _)]) ⟨rfl, rfl, rfl, rfl, rfl, trivial⟩ ?_;refine GE_plain (.st 0 (.st 1 .nil)) rfl ?_;refine GT_st rfl rfl rfl rfl (V_move rfl rfl) ?_;refine GT_st rfl rfl rfl rfl (V_isF (V_neq rfl rfl rfl) (fun q => q rfl)) ?_;refine GT_nil ?_;refine GE_cond_f rfl ?_;refine GE_skip ?_;refine GE_seq ?_;refine GE_seq ?_;refine GE_plain (.st 0 (.st 1 (.st 2 (.st 3 (.st 4 .nil))))) rfl ?_;refine GT_st rfl rfl rfl rfl (V_move rfl rfl) ?_;refine GT_st rfl rfl rfl rfl (V_len rfl Tryz.underlying38 rfl) ?_;refine GT_st rfl rfl rfl rfl (V_move rfl rfl) ?_;refine GT_st rfl rfl rfl rfl (V_len rfl Tryz.underlying43 rfl) ?_;refine GT_st rfl rfl rfl rfl (V_isF (V_neq rfl rfl rfl) (fun q => q rfl)) ?_;refine GT_nil ?_;refine GE_cond_f rfl ?_;refine GE_skip ?_;refine GE_seq ?_;refine GE_slots (L' := [(0, _), (1, _), (2, _), (3, _)]) ⟨rfl, rfl, rfl, rfl, trivial⟩ ?_;refine GE_plain (.st 0 .nil) rfl ?_;refine GT_st rfl rfl rfl rfl (V_assign rfl rfl) ?_;refine GT_nil ?_;refine GE_seq ?_;refine GE_seq ?_;refine GE_plain (.st 0 (.st 1 (.st 2 .nil))) rfl ?_;refine GT_st rfl rfl rfl rfl (V_move rfl rfl) ?_
  refine GT_st rfl rfl rfl rfl (V_len rfl Tryz.underlying38 rfl) ?_;refine GT_st rfl rfl rfl rfl (V_move rfl rfl) ?_;refine GT_nil ?_;refine GE_block ?_;refine GE_to (GE_loop (ι := Nat × (Option Addr × Nat × Items)) (fun z => l.length - z.1) (fun z => [(0, .slice A l.length c), (1, I s), (2, I pl), (11, .slice z.2.1 (full z.1).length z.2.2.1), (29, .slice A2 l.length c2), (30, I l.length), (31, I z.1)]) (fun z => z.2.2.2) (fun z => z.1 ≤ l.length ∧ Own 1 3 eN (nats (full z.1)) (.slice z.2.1 (full z.1).length z.2.2.1) z.2.2.2) ?_ (0, (none, 0, [])) ?_) ⟨rfl, rfl, rfl, rfl, rfl, rfl, rfl, trivial⟩ HS.nil
  · rintro ⟨k, y⟩ ⟨hkz, hO⟩ ih; dsimp only at hkz hO ih ⊢
    refine GE_seq ?_;refine GE_plain (.st 0 .nil) rfl ?_;refine GT_st rfl rfl rfl rfl (V_lss rfl rfl rfl) ?_;refine GT_nil ?_;refine GE_seq ?_;refine GE_cond rfl (fun q1 => ?_) (fun q1 => ?_)
    · have hkl : k < l.length := (by omega); have hfs : (full k).length ≤ 1 := (by unfold full; split <;> simp); have hlt := sL_lt (S := full k) (k := 0) (Nat.zero_le _); have hbd : (sL (full k) 0).getD 0 default < 2 ^ k := (sL_bd (k := 0) (i := k) ⟨by unfold full; split; exact Nat.zero_le _; (show 1 ≤ k; omega), fun x hx => by unfold full at hx; split at hx; (cases hx); rw [List.mem_singleton] at hx; subst hx; have : 1 ≤ 2 ^ k := Nat.one_le_two_pow; omega⟩ _ (getD_memT hlt)); have hp8 : 2 ^ k < 2 ^ 61 := Nat.pow_lt_pow_right (by decide) (by omega); have hnl := nats_len (sL (full k) 0); have hfu : sU (full k) 0 k = full (k + 1) := (first_step rfl rfl).2; have hfl : (sU (full k) 0 k).length = (sL (full k) 0).length := sU_len ..
      refine GE_skip ?_;refine GE_seq ?_;refine GE_block ?_;refine GE_seq ?_;refine GE_plain (.st 0 (.st 1 (.st 2 (.st 3 (.st 4 .nil))))) rfl ?_;refine GT_st rfl rfl rfl rfl (V_move rfl rfl) ?_;refine GT_st rfl rfl rfl rfl (V_index rfl rfl rfl Tryz.underlying38 sz_3 rfl hkl (hg.isSome (k := k) (by rw [hrl]; exact hkl))) ?_;refine GT_st rfl rfl rfl rfl (V_load (v := I 0) rfl rfl ag_3 (hg.at0 noM (by rw [hrl]; exact hkl) (by rw [List.getD, List.getElem?_replicate, if_pos hkl]; rfl))) ?_;refine GT_st rfl rfl rfl rfl (V_assign rfl rfl) ?_;refine GT_st rfl rfl rfl rfl (V_assign rfl rfl) ?_;refine GT_nil ?_;refine GE_cut (ι := Option Addr × Nat × Items) (fun y2 => [(0, .slice A l.length c), (1, I s), (2, I pl), (11, .slice y2.1 (sL (full k) 0).length y2.2.1), (12, I k), (13, I 0), (29, .slice A2 l.length c2), (30, I l.length), (31, I k)]) (fun y2 => y2.2.2) (fun y2 => Own 1 3 eN (nats (sL (full k) 0)) (.slice y2.1 (sL (full k) 0).length y2.2.1) y2.2.2) ?_ (fun hk => ?_)
      · intro y2 hO5
        refine GE_drawn (.st 0 (.st 1 (.st 2 (.st 3 (.st 4 (.st 5 (.st 6 (.st 7 (.ld 8 [] .nil))))))))) [8] (by decide +kernel) ?_;refine GT_st rfl rfl rfl rfl (V_move rfl rfl) ?_;refine GT_st rfl rfl rfl rfl (V_move rfl rfl) ?_;refine GT_st rfl rfl rfl rfl (V_index rfl rfl rfl Tryz.underlying38 sz_3 (k := 0) rfl hlt (hO5.isSome (k := 0) (by omega))) ?_;refine GT_st rfl rfl rfl rfl (V_load rfl rfl ag_3 (CellAt.own0 (k := 0) hO5 eN_len (by omega) (by rw [nats_at hlt]; rfl))) ?_;refine GT_st rfl rfl rfl rfl (V_move rfl rfl) ?_;refine GT_st rfl rfl rfl rfl (V_shl (s := k) (z := ((2 ^ k : Nat) : Int)) rfl rfl rfl (by show k ≤ 64; omega) (by rw [Int.one_mul]; have := wrapN (a := 2 ^ k) (by omega); rwa [Int.natCast_pow] at this ⊢)) ?_;refine GT_st rfl rfl rfl rfl (V_orN (p := (sL (full k) 0).getD 0 default) (q := 2 ^ k) (z := (((sL (full k) 0).getD 0 default + 2 ^ k : Nat) : Int)) rfl rfl rfl rfl rfl ⟨by omega, by omega⟩ (by rw [set_bit hbd])) ?_;refine GT_st rfl rfl rfl rfl (V_index rfl rfl rfl Tryz.underlying38 sz_3 (k := 0) rfl hlt (hO5.isSome (k := 0) (by omega))) ?_;refine GT_storeOwn (enc := eN) (q := 0) (xx := (((sL (full k) 0).getD 0 default + 2 ^ k : Nat) : Int)) rfl rfl rfl rfl rfl rfl rfl sz_3 hO5 eN_len eN_one (by omega) (by decide) (fun _ _ => GR_nil) (fun I6 hO6 => ?_)
        refine GT_nil ?_;refine GE_inBlock ?_;refine GE_slots (L' := [(0, _), (1, _), (2, _), (11, _), (29, _), (30, _), (31, _)]) ⟨rfl, rfl, rfl, rfl, rfl, rfl, rfl, trivial⟩ ?_
        rw [nats_set] at hO6
        refine GE_plain (.st 0 (.ld 1 [] .nil)) rfl ?_;refine GT_st rfl rfl rfl rfl (V_add rfl rfl rfl (wrap_i64 (by omega))) ?_;refine GT_ldv rfl rfl rfl rfl rfl (V_move rfl rfl) (GR_nil) ?_;refine GT_nil ?_
        exact GE_to (ih (k + 1, (y2.1, y2.2.1, I6)) ⟨by dsimp only; omega, by dsimp only; rw [← hfu, hfl]; exact hO6⟩ (by dsimp only; omega)) ⟨rfl, rfl, rfl, lookS rfl (by dsimp only; rw [← hfu, hfl]), rfl, rfl, rfl, trivial⟩ HS.last
      · refine GE_block ?_;refine GE_seq ?_;refine GE_slots (L' := [(0, _), (1, _), (2, _), (11, _), (12, _), (13, _), (29, _), (30, _), (31, _)]) ⟨rfl, rfl, rfl, rfl, rfl, rfl, rfl, rfl, rfl, trivial⟩ ?_;refine GE_plain (.st 0 (.st 1 (.st 2 (.st 3 (.st 4 (.st 5 (.st 6 (.st 7 (.st 8 .nil))))))))) rfl ?_;refine GT_st rfl rfl rfl rfl (V_move rfl rfl) ?_;refine GT_st rfl rfl rfl rfl (V_isF (V_lss rfl rfl rfl) (by decide)) ?_;refine GT_st rfl rfl rfl rfl (V_move rfl rfl) ?_;refine GT_st_g rfl rfl rfl rfl rfl rfl rfl (V_move rfl rfl) ?_;refine GT_st_g rfl rfl rfl rfl rfl rfl rfl (V_move rfl rfl) ?_;refine GT_st_g rfl rfl rfl rfl rfl rfl rfl (V_len rfl Tryz.underlying38 rfl) ?_;refine GT_st_g rfl rfl rfl rfl rfl rfl rfl (V_isF (V_gtr rfl rfl rfl) (by omega)) ?_;refine GT_st rfl rfl rfl rfl (V_pick_f rfl rfl rfl) ?_;refine GT_st rfl rfl rfl rfl (V_assign rfl rfl) ?_;refine GT_nil ?_;refine GE_cond_f rfl ?_;refine GE_seq ?_;refine GE_slots (L' := [(0, _), (1, _), (2, _), (11, _), (12, _), (13, _), (29, _), (30, _), (31, _), (40, _), (41, _), (42, _), (43, _)]) ⟨rfl, rfl, rfl, rfl, rfl, rfl, rfl, rfl, rfl, rfl, rfl, rfl, rfl, trivial⟩ ?_;refine GE_plain (.st 0 (.st 1 (.st 2 (.st 3 (.st 4 .nil))))) rfl ?_;refine GT_st rfl rfl rfl rfl (V_move rfl rfl) ?_;refine GT_st rfl rfl rfl rfl (V_move rfl rfl) ?_;refine GT_st rfl rfl rfl rfl (V_len rfl Tryz.underlying38 rfl) ?_;refine GT_st rfl rfl rfl rfl (V_eql rfl rfl rfl) ?_;refine GT_st rfl rfl rfl rfl (V_assign rfl rfl) ?_;refine GT_nil ?_;refine GE_cond rfl (fun q2 => ?_) (fun q2 => ?_)
        · have hz : 0 = (full k).length := (by omega)
          refine GE_slots (L' := [(0, _), (1, _), (2, _), (11, _), (12, _), (13, _), (29, _), (30, _), (31, _), (40, _), (41, _), (42, _), (43, _)]) ⟨rfl, rfl, rfl, rfl, rfl, rfl, rfl, rfl, rfl, rfl, rfl, rfl, rfl, trivial⟩ ?_;refine GE_plain (.st 0 (.ld 1 [] (.ld 2 [] (.ld 3 [] .nil)))) rfl ?_;refine GT_st rfl rfl rfl rfl (V_move rfl rfl) ?_;refine GT_buildSlice (z := [_]) rfl rfl rfl rfl rfl Tryz.underlying38 zc_3 sz_3 (by decide) rfl rfl (fun _ => GR_nil) (fun b51 => ?_)
          refine GT_append (enc := eN) (l := nats (full k)) (m := [0]) rfl rfl rfl rfl rfl rfl rfl hO (fun w m => RdL.own' m eN_len) Tryz.underlying38 zc_3 sz_3 ⟨rfl, by decide⟩ by_3 ⟨by rw [nats_len]; simp only [List.length_singleton]; omega, by rw [nats_len]; simp only [List.length_singleton]; omega⟩ eN_len eN_one (fun _ _ _ _ => GR_nil) (fun A5 c5 I5 hO5 => ?_)
          rw [nats_snoc, nats_len, show full k ++ [0] = sL (full k) 0 from (if_pos hz).symm] at hO5 ⊢
          refine GT_ldv rfl rfl rfl rfl rfl (V_assign rfl rfl) (GR_nil) ?_;refine GT_nil ?_;refine GE_inBlock ?_
          first
            | exact GE_to (hk (A5, c5, I5) hO5) ⟨rfl, rfl, rfl, rfl, rfl, rfl, rfl, rfl, rfl, trivial⟩ HS.last
            | exact GE_to (hk y (by rw [sL_ne hz]; exact hO)) ⟨rfl, rfl, rfl, lookS rfl (by rw [sL_ne hz]), rfl, rfl, rfl, rfl, rfl, trivial⟩ HS.last
        · have hz : ¬ 0 = (full k).length := (by omega)
          refine GE_skip ?_;refine GE_inBlock ?_
          first
            | exact GE_to (hk (A5, c5, I5) hO5) ⟨rfl, rfl, rfl, rfl, rfl, rfl, rfl, rfl, rfl, trivial⟩ HS.last
            | exact GE_to (hk y (by rw [sL_ne hz]; exact hO)) ⟨rfl, rfl, rfl, lookS rfl (by rw [sL_ne hz]), rfl, rfl, rfl, rfl, rfl, trivial⟩ HS.last
    · obtain rfl : k = l.length := (by omega)
      refine GE_exit rfl ?_;refine GE_seq ?_;refine GE_slots (L' := [(0, _), (1, _), (2, _), (11, _)]) ⟨rfl, rfl, rfl, rfl, trivial⟩ ?_;refine GE_plain (.st 0 (.st 1 (.st 2 (.ld 3 [] (.st 4 (.ld 5 [] (.st 6 .nil))))))) rfl ?_;refine GT_st rfl rfl rfl rfl (V_move rfl rfl) ?_;refine GT_st rfl rfl rfl rfl (V_move rfl rfl) ?_;refine GT_st rfl rfl rfl rfl (V_move rfl rfl) ?_;refine GT_makeMapM kI kI rfl rfl rfl rfl rfl (fun _ _ => GR_nil) (fun b65 ob hob => ?_)
      refine GT_st rfl rfl rfl rfl (V_build (vs := [_, _, _, _]) rfl rfl zc_215 pl_215 sa_215 rfl) ?_;refine GT_box (z := [_, _, _, _]) rfl rfl rfl rfl rfl rfl rfl (fun _ => GR_nil) (fun b67 => ?_)
      refine GT_st rfl rfl rfl rfl (V_assign rfl rfl) ?_;refine GT_nil ?_;refine GE_seq ?_;refine GE_seq ?_;refine GE_slots (L' := [(11, _), (14, _)]) ⟨rfl, rfl, trivial⟩ ?_;refine GE_plain (.st 0 (.st 1 (.ld 2 [] (.st 3 (.st 4 (.st 5 (.st 6 (.st 7 .nil)))))))) rfl ?_;refine GT_st rfl rfl rfl rfl (V_move rfl rfl) ?_;refine GT_st rfl rfl rfl rfl (V_move rfl rfl) ?_;refine GT_callX rfl rfl rfl rfl rfl rfl rfl rfl rn_88 (fun w m => C_sum (sets := full l.length) (G := y.2.2 ++ []) (c := c) (r := b65) (ob := ob) (g := b67) (m.hs (C := cx Tryz.prog hm 0 0 _ none' fun _ _ => True) (HS.cons rfl (HS.cons rfl (HS.chunk HS.nil)))) hr hc hs hpl hob KnR.nil (fun x hx => by unfold full at hx; split at hx; (cases hx); rw [List.mem_singleton] at hx; subst hx; have : 1 ≤ 2 ^ l.length := Nat.one_le_two_pow; omega) (by unfold full; split <;> simp) (fun w m => hO.rd eN_len (m.hs (C := cx Tryz.prog hm 0 0 _ none' fun _ _ => True) HS.last))) (fun _ _ => GR_nil) (fun y3 hy3 => ?_)
      refine GT_st rfl rfl rfl rfl (V_move rfl rfl) ?_;refine GT_st rfl rfl rfl rfl (V_extract rfl rfl rfl) ?_;refine GT_st rfl rfl rfl rfl (V_extract rfl rfl rfl) ?_;refine GT_st rfl rfl rfl rfl (V_assign rfl rfl) ?_;refine GT_st rfl rfl rfl rfl (V_assign rfl rfl) ?_;refine GT_nil ?_;refine GE_seq ?_;refine GE_slots (L' := [(15, _), (16, _)]) ⟨rfl, rfl, trivial⟩ ?_;refine GE_plain (.st 0 .nil) rfl ?_;refine GT_st rfl rfl rfl rfl (V_move rfl rfl) ?_;refine GT_nil ?_;refine GE_condB rfl (fun q3 => ?_) (fun q3 => ?_)
      · refine GE_seq ?_;refine GE_plain (.st 0 (.st 1 (.st 2 .nil))) rfl ?_;refine GT_st rfl rfl rfl rfl (V_move rfl rfl) ?_;refine GT_st rfl rfl rfl rfl (V_assign rfl rfl) ?_;refine GT_st rfl rfl rfl rfl (V_assign rfl rfl) ?_;refine GT_nil ?_;refine GE_ret Tryz.func37 ⟨_, _, rfl, rfl, rfl⟩ (fun w hw => ?_)
        exact ⟨y3.1, hy3.1, by rw [if_pos q3, if_pos q3]; rfl, hw.nil⟩
      · refine GE_skip ?_;refine GE_seq ?_;refine GE_plain (.st 0 (.st 1 .nil)) rfl ?_;refine GT_st rfl rfl rfl rfl (V_assign rfl rfl) ?_;refine GT_st rfl rfl rfl rfl (V_assign rfl rfl) ?_;refine GT_nil ?_;refine GE_ret Tryz.func37 ⟨_, _, rfl, rfl, rfl⟩ (fun w hw => ?_)
        exact ⟨y3.1, hy3.1, by rw [q3]; rfl, hw.nil⟩
  · exact ⟨Nat.zero_le _, Own.nil⟩
end
end Go.Proofs.YtpbflnfcgcldkaaGreatDoor.Slv
/- Labels that are printed together, plain; the contract of Run in both cases. -/
namespace Go.Proofs.YtpbflnfcgcldkaaGreatDoor.Slv
open Go.Sx Go.Proofs Go.RowKit
open Side (eN eN_len eN_one getD_memT sh_trans)
abbrev rep (m : Nat) (n : Int) : List Int := List.replicate m n
theorem rep_len (m : Nat) (n : Int) : (rep m n).length = m := List.length_replicate
theorem rep_cop {m : Nat} {n : Int} (hm : m ≤ 8) (hn : 1 ≤ n ∧ n ≤ 65536) : CopOk (rep m n) := ⟨by rw [rep_len]; exact hm, fun x hx => by have := (List.mem_replicate.1 hx).2; omega⟩
theorem rep_sum (m : Nat) (n x : Int) : rsum (rep m n) x = m * cd n x := by
  unfold rsum plL rep
  rw [List.map_replicate]
  induction m with
  | zero => simp
  | succ m ih => rw [List.replicate_succ, List.sum_cons, ih, Int.natCast_succ, Int.add_mul]; omega
theorem rep_at {m : Nat} {n : Int} {i : Nat} (h : i < m) : (rep m n).getD i default = n := by rw [rep, List.getD, List.getElem?_replicate, if_pos h]; rfl
theorem rep_pl (m : Nat) (n x : Int) : plL (rep m n) x = rep m (cd n x) := by unfold plL rep; rw [List.map_replicate]
theorem rep_snoc (m : Nat) (n : Int) : rep m n ++ [n] = rep (m + 1) n := (List.replicate_succ').symm
theorem each_bd {k : Int} {m : Nat} (hk : 1 ≤ k ∧ k ≤ 64) (hm : 1 ≤ m) (h : (m : Int) ≤ k) : (1 ≤ k / m ∧ k / m ≤ 64) ∧ k / m * m ≤ k := by
  refine ⟨⟨?_, ?_⟩, Int.ediv_mul_le _ (by omega)⟩
  · rw [Int.le_ediv_iff_mul_le (by omega)]; omega
  · have := Int.ediv_le_self (a := k) m (by omega); omega
theorem want_lst {n k : Int} {m : Nat} (hn : 1 ≤ n ∧ n ≤ 65536) (hk : 1 ≤ k ∧ k ≤ 64) (hm : 1 ≤ m) (h : (m : Int) ≤ k) : Lst (rep m n) k (cd n (k / m)) := by
  obtain ⟨⟨h1, h2⟩, h3⟩ := each_bd hk hm h
  have hb := cd_bd hn.1 h1
  have hle : n ≤ cd n (k / m) * (k / m) := (cd_le h1).1 (Int.le_refl _)
  refine ⟨hb.1, by omega, ?_, fun x hx1 hx2 => ?_⟩
  · rw [rep_sum]
    have : cd n (cd n (k / m)) ≤ k / m := by rw [cd_le hb.1, Int.mul_comm]; exact hle
    have := Int.mul_le_mul_of_nonneg_left this (show (0 : Int) ≤ m by omega)
    rw [Int.mul_comm (m : Int) (k / m)] at this
    omega
  · rw [rep_sum]
    refine Int.lt_of_not_ge fun q => ?_
    have h4 : cd n x ≤ k / m := by rw [Int.le_ediv_iff_mul_le (by omega), Int.mul_comm]; exact q
    rw [cd_le hx1] at h4
    have : cd n (k / m) ≤ x := by rw [cd_le h1, Int.mul_comm]; exact h4
    omega
theorem place_bd {n k x : Int} {m : Nat} (hn : 1 ≤ n ∧ n ≤ 65536) (hk : 1 ≤ k ∧ k ≤ 64) (hm : 1 ≤ m) (h : (m : Int) ≤ k) (hx : x = cd n (k / m)) : (1 ≤ cd n x ∧ cd n x ≤ k / m) ∧ n ≤ cd n x * x ∧ cd n x * x ≤ 4194304 := by
  subst hx
  obtain ⟨⟨h1, h2⟩, h3⟩ := each_bd hk hm h
  have hb := cd_bd hn.1 h1
  have hb2 := cd_bd hn.1 hb.1
  have hle : n ≤ cd n (k / m) * (k / m) := (cd_le h1).1 (Int.le_refl _)
  have h5 : cd n (cd n (k / m)) ≤ k / m := by rw [cd_le hb.1, Int.mul_comm]; exact hle
  refine ⟨⟨hb2.1, h5⟩, (cd_le hb.1).1 (Int.le_refl _), ?_⟩
  have h6 := Int.mul_le_mul_of_nonneg_right (show cd n (cd n (k / m)) ≤ 64 by omega) (show 0 ≤ cd n (k / m) by omega)
  omega
theorem cost_none {l : List Int} {s pl : Int} (h : s < l.length) : CostR l s pl (2 ^ l.length - 1) (-1) := ⟨(0, false), by rw [onL_all]; exact .inl ⟨h, rfl⟩, rfl⟩
theorem cost_some {l : List Int} {s pl n : Int} (h : (l.length : Int) ≤ s) (h1 : 1 ≤ l.length) (hn : Lst l s n) : CostR l s pl (2 ^ l.length - 1) (n + pl) :=
  ⟨(n, true), by rw [onL_all]; exact .inr (.inr ⟨h, fun e => by rw [e] at h1; exact absurd h1 (by decide), rfl, hn⟩), rfl⟩
theorem sum_none {l : List Int} {s pl : Int} {y : Int × Bool} (hy : SumR l s pl (full l.length) y) (h1 : 1 ≤ l.length) (h : s < l.length) : y = (0, false) :=
  (hy.one _ _ (by rw [full, if_neg (by omega)]) (cost_none h)).2 (by decide)
theorem sum_some {l : List Int} {s pl n : Int} {y : Int × Bool} (hy : SumR l s pl (full l.length) y) (h1 : 1 ≤ l.length) (h : (l.length : Int) ≤ s) (hn : Lst l s n) (hp : 0 ≤ pl) : y = (n + pl, true) :=
  (hy.one _ _ (by rw [full, if_neg (by omega)]) (cost_some h h1 hn)).1 (by have := hn.lo; omega)
section
variable {w : World} {A : Option Addr} {c : Nat} {l : List Int} {s : Int}
theorem C_RunU (hr : RdL w 1 eN A l) (hc : CopOk l) (hs : 1 ≤ s ∧ s ≤ 64) (h0 : 1 ≤ l.length) : Con Tryz.prog 36 [.slice A l.length c, I s] w
    (fun y : Int × (Option Addr × Nat × Nat) × Items × Int => (s < l.length ∧ y.2.2.2 = 14) ∨ ((l.length : Int) ≤ s ∧ y.2.2.2 = 0 ∧ Lst l s y.1 ∧ y.2.1.2.1 = l.length ∧ Own 1 2 eN (plL l y.1) (.slice y.2.1.1 y.2.1.2.1 y.2.1.2.2) y.2.2.1))
    (fun y => .tuple #[I y.1, .slice y.2.1.1 y.2.1.2.1 y.2.1.2.2, I y.2.2.2]) (fun y => y.2.2.1) := by
  by_cases h1 : s < l.length
  · exact (C_Run0 (c := c) hr hc hs h1).mono fun v w' ⟨h2, h3⟩ => ⟨(0, (none, 0, 0), [], 14), .inl ⟨h1, rfl⟩, h2, h3⟩
  · exact (C_Run (c := c) hr hc hs (by omega) h0).mono fun v w' ⟨y, h4, h5, h6⟩ => ⟨(y.1, (y.2.1, l.length, y.2.2.1), y.2.2.2, 0), .inr ⟨by omega, rfl, h4.1, rfl, h4.2⟩, h5, h6⟩
end
end Go.Proofs.YtpbflnfcgcldkaaGreatDoor.Slv
/- The formats and tracks of an album, checked and opened, walked. -/
namespace Go.Proofs.YtpbflnfcgcldkaaGreatDoor.Side
open Go.Sx Go.Proofs Go.RowKit
instance : Inhabited Fmt := ⟨⟨⟨#[]⟩, 0, 0, 0, 0, 0, 0, 0⟩⟩
def eFmt (f : Fmt) : List Value := f.cells
theorem eFmt_len (f : Fmt) : (eFmt f).length = 8 := rfl
def ePtr (g : Nat) : List Value := [ptr g 0]
theorem ePtr_len (g : Nat) : (ePtr g).length = 1 := rfl
theorem ePtr_one (g : Nat) : ∀ u ∈ ePtr g, u.oneCell' = true := fun u h => by unfold ePtr at h; rw [List.mem_singleton] at h; subst h; rfl
theorem Fmt.Ref.ok {f : Fmt} (h : f.Ref) : f.Ok := ⟨h.nm, h.outer, h.inner, h.per, h.lead, h.gap, h.tail, h.cost⟩
def TrksOk (ts : List Trk) : Prop := ts.length ≤ 24 ∧ ∀ t ∈ ts, t.Ok
def FmtsOk (fs : List Fmt) : Prop := (1 ≤ fs.length ∧ fs.length ≤ 8) ∧ ∀ f ∈ fs, f.Ok
section
variable {w w0 : World} {A A2 : Option Addr} {c c2 : Nat} {fs : List Fmt} {ts : List Trk}
theorem all_of_getD {α : Type} [Inhabited α] {l : List α} {p : α → Prop} (h : ∀ j, j < l.length → p (l.getD j default)) : ∀ x ∈ l, p x := fun x hx => by
  obtain ⟨j, hj, rfl⟩ := List.mem_iff_getElem.1 hx
  have := h j hj
  rwa [List.getD, List.getElem?_eq_getElem hj] at this
theorem C_refTracks (h : RdL w 3 eTrk A ts) : Con Tryz.prog 82 [.slice A ts.length c] w (fun e : Int => e = 0 → TrksOk ts) (fun e => I e) (fun _ => []) := by
  refine Ret_of (vs := [_]) hm none' Tryz.func82 rfl Tryz.ntmps82 rfl ?_
  dsimp only [slotsOf]
  refine GE_seq ?_;refine GE_plain (.st 0 .nil) rfl ?_;refine GT_st rfl rfl rfl rfl (V_assign rfl rfl) ?_;refine GT_nil ?_;refine GE_seq ?_;refine GE_seq ?_;refine GE_plain (.st 0 (.st 1 (.st 2 .nil))) rfl ?_;refine GT_st rfl rfl rfl rfl (V_move rfl rfl) ?_;refine GT_st rfl rfl rfl rfl (V_len rfl Tryz.underlying95 rfl) ?_;refine GT_st rfl rfl rfl rfl (V_gtr rfl rfl rfl) ?_;refine GT_nil ?_;refine GE_cond rfl (fun q1 => ?_) (fun q1 => ?_)
  · refine GE_seq ?_;refine GE_slots (L' := []) trivial ?_;refine GE_plain (.st 0 .nil) rfl ?_;refine GT_st rfl rfl rfl rfl (V_assign rfl rfl) ?_;refine GT_nil ?_;refine GE_ret Tryz.func82 rfl (fun w hw => ?_)
    exact ⟨6, fun q => (by cases q), rfl, hw.nil⟩
  · refine GE_skip ?_;refine GE_seq ?_;refine GE_seq ?_;refine GE_slots (L' := [(0, _)]) ⟨rfl, trivial⟩ ?_;refine GE_plain (.st 0 .nil) rfl ?_;refine GT_st rfl rfl rfl rfl (V_assign rfl rfl) ?_;refine GT_nil ?_;refine GE_block ?_;refine GE_to (GE_loop (ι := Nat) (fun k => ts.length - k) (fun k => [(0, .slice A ts.length c), (3, I k)]) (fun k => []) (fun k => k ≤ ts.length ∧ ∀ j, j < k → (ts.getD j default).Ok) ?_ 0 ?_) ⟨rfl, rfl, trivial⟩ HS.nil
    · rintro k ⟨hk, hall⟩ ih
      refine GE_seq ?_;refine GE_seq ?_;refine GE_plain (.st 0 (.st 1 (.st 2 (.st 3 .nil)))) rfl ?_;refine GT_st rfl rfl rfl rfl (V_move rfl rfl) ?_;refine GT_st rfl rfl rfl rfl (V_move rfl rfl) ?_;refine GT_st rfl rfl rfl rfl (V_len rfl Tryz.underlying95 rfl) ?_;refine GT_st rfl rfl rfl rfl (V_lss rfl rfl rfl) ?_;refine GT_nil ?_;refine GE_cond rfl (fun q2 => ?_) (fun q2 => ?_)
      · have hkl : k < ts.length := (by omega)
        refine GE_skip ?_;refine GE_seq ?_;refine GE_block ?_;refine GE_seq ?_;refine GE_slots (L' := [(0, _), (3, _)]) ⟨rfl, rfl, trivial⟩ ?_;refine GE_plain (.st 0 (.st 1 (.st 2 (.st 3 (.st 4 (.ld 5 [] (.st 6 (.st 7 (.st 8 (.st 9 (.st 10 (.st 11 (.st 12 (.ld 13 [] (.st 14 (.st 15 (.st 16 (.st 17 (.st 18 (.st 19 (.st 20 (.st 21 (.ld 22 [] (.st 23 (.st 24 .nil))))))))))))))))))))))))) rfl ?_;refine GT_st rfl rfl rfl rfl (V_move rfl rfl) ?_;refine GT_st rfl rfl rfl rfl (V_move rfl rfl) ?_;refine GT_st rfl rfl rfl rfl (V_index rfl rfl rfl Tryz.underlying95 sz_301 (k := k) rfl hkl (h.isSome hkl)) ?_;refine GT_st rfl rfl rfl rfl (V_fieldA rfl rfl fo_301_0) ?_;refine GT_st rfl rfl rfl rfl (V_load rfl rfl ag_2 (show CellAt _ _ _ (I (ts.getD k default).long) from h.at0 noM hkl rfl)) ?_;refine GT_call0 rfl rfl rfl rfl rfl rfl rfl rfl rn_78 (fun w hw => C_within4) (GR_nil) ?_;refine GT_st rfl rfl rfl rfl (V_not rfl rfl) ?_;refine GT_st rfl rfl rfl rfl (V_move rfl rfl) ?_;refine GT_splitNot (d := 20) rfl (fun q3 => ?_) (fun q3 => ?_)
        · refine GT_skip rfl rfl rfl rfl rfl (by decide) rfl rfl ?_;refine GT_skip rfl rfl rfl rfl rfl (by decide) rfl rfl ?_;refine GT_skip rfl rfl rfl rfl rfl (by decide) rfl rfl ?_;refine GT_skip rfl rfl rfl rfl rfl (by decide) rfl rfl ?_;refine GT_skip rfl rfl rfl rfl rfl (by decide) rfl rfl ?_;refine GT_skip_ld rfl rfl rfl rfl rfl (by decide) rfl rfl rfl (GR_nil) ?_;refine GT_skip rfl rfl rfl rfl rfl (by decide) rfl rfl ?_;refine GT_st rfl rfl rfl rfl (V_pick_t rfl rfl rfl) ?_;refine GT_st rfl rfl rfl rfl (V_move rfl rfl) ?_;refine GT_skip rfl rfl rfl rfl rfl (by decide) rfl rfl ?_;refine GT_skip rfl rfl rfl rfl rfl (by decide) rfl rfl ?_;refine GT_skip rfl rfl rfl rfl rfl (by decide) rfl rfl ?_;refine GT_skip rfl rfl rfl rfl rfl (by decide) rfl rfl ?_;refine GT_skip rfl rfl rfl rfl rfl (by decide) rfl rfl ?_;refine GT_skip_ld rfl rfl rfl rfl rfl (by decide) rfl rfl rfl (GR_nil) ?_;refine GT_skip rfl rfl rfl rfl rfl (by decide) rfl rfl ?_;refine GT_st rfl rfl rfl rfl (V_pick_t rfl rfl rfl) ?_;refine GT_nil ?_;refine GE_cond_t rfl ?_;refine GE_seq ?_;refine GE_slots (L' := []) trivial ?_;refine GE_plain (.st 0 .nil) rfl ?_;refine GT_st rfl rfl rfl rfl (V_assign rfl rfl) ?_;refine GT_nil ?_;refine GE_ret Tryz.func82 rfl (fun w hw => ?_)
          exact ⟨2, fun q => (by cases q), rfl, hw.nil⟩
        · refine GT_st_g rfl rfl rfl rfl rfl rfl rfl (V_move rfl rfl) ?_;refine GT_st_g rfl rfl rfl rfl rfl rfl rfl (V_move rfl rfl) ?_;refine GT_st_g rfl rfl rfl rfl rfl rfl rfl (V_index rfl rfl rfl Tryz.underlying95 sz_301 (k := k) rfl hkl (h.isSome hkl)) ?_;refine GT_st_g rfl rfl rfl rfl rfl rfl rfl (V_fieldA rfl rfl fo_301_1) ?_;refine GT_st_g rfl rfl rfl rfl rfl rfl rfl (V_load rfl rfl ag_2 (show CellAt _ _ _ (I (ts.getD k default).pitch) from h.at1 noM hkl rfl)) ?_;refine GT_call0_g rfl rfl rfl rfl rfl rfl rfl rfl rfl rfl rfl rn_78 (fun w hw => C_within4) (GR_nil) ?_;refine GT_st_g rfl rfl rfl rfl rfl rfl rfl (V_not rfl rfl) ?_;refine GT_st rfl rfl rfl rfl (V_pick_f rfl rfl rfl) ?_;refine GT_st rfl rfl rfl rfl (V_move rfl rfl) ?_;refine GT_splitNot (d := 29) rfl (fun q4 => ?_) (fun q4 => ?_)
          · refine GT_skip rfl rfl rfl rfl rfl (by decide) rfl rfl ?_;refine GT_skip rfl rfl rfl rfl rfl (by decide) rfl rfl ?_;refine GT_skip rfl rfl rfl rfl rfl (by decide) rfl rfl ?_;refine GT_skip rfl rfl rfl rfl rfl (by decide) rfl rfl ?_;refine GT_skip rfl rfl rfl rfl rfl (by decide) rfl rfl ?_;refine GT_skip_ld rfl rfl rfl rfl rfl (by decide) rfl rfl rfl (GR_nil) ?_;refine GT_skip rfl rfl rfl rfl rfl (by decide) rfl rfl ?_;refine GT_st rfl rfl rfl rfl (V_pick_t rfl rfl rfl) ?_;refine GT_nil ?_;refine GE_cond_t rfl ?_;refine GE_seq ?_;refine GE_slots (L' := []) trivial ?_;refine GE_plain (.st 0 .nil) rfl ?_;refine GT_st rfl rfl rfl rfl (V_assign rfl rfl) ?_;refine GT_nil ?_;refine GE_ret Tryz.func82 rfl (fun w hw => ?_)
            exact ⟨2, fun q => (by cases q), rfl, hw.nil⟩
          · refine GT_st_g rfl rfl rfl rfl rfl rfl rfl (V_move rfl rfl) ?_;refine GT_st_g rfl rfl rfl rfl rfl rfl rfl (V_move rfl rfl) ?_;refine GT_st_g rfl rfl rfl rfl rfl rfl rfl (V_index rfl rfl rfl Tryz.underlying95 sz_301 (k := k) rfl hkl (h.isSome hkl)) ?_;refine GT_st_g rfl rfl rfl rfl rfl rfl rfl (V_fieldA rfl rfl fo_301_2) ?_;refine GT_st_g rfl rfl rfl rfl rfl rfl rfl (V_load rfl rfl ag_2 (show CellAt _ _ _ (I (ts.getD k default).least) from h.at1 noM hkl rfl)) ?_;refine GT_call0_g rfl rfl rfl rfl rfl rfl rfl rfl rfl rfl rfl rn_78 (fun w hw => C_within4) (GR_nil) ?_;refine GT_st_g rfl rfl rfl rfl rfl rfl rfl (V_not rfl rfl) ?_;refine GT_st rfl rfl rfl rfl (V_pick_f rfl rfl rfl) ?_;refine GT_nil ?_;refine GE_condNot rfl (fun q5 => ?_) (fun q5 => ?_)
            · refine GE_seq ?_;refine GE_slots (L' := []) trivial ?_;refine GE_plain (.st 0 .nil) rfl ?_;refine GT_st rfl rfl rfl rfl (V_assign rfl rfl) ?_;refine GT_nil ?_;refine GE_ret Tryz.func82 rfl (fun w hw => ?_)
              exact ⟨2, fun q => (by cases q), rfl, hw.nil⟩
            · refine GE_skip ?_;refine GE_inBlock ?_;refine GE_slots (L' := [(0, _), (3, _), (21, _), (22, _), (23, _), (24, _), (25, _), (26, _), (27, _), (30, _), (31, _), (32, _), (33, _), (34, _), (35, _), (36, _)]) ⟨rfl, rfl, rfl, rfl, rfl, rfl, rfl, rfl, rfl, rfl, rfl, rfl, rfl, rfl, rfl, rfl, trivial⟩ ?_;refine GE_plain (.st 0 (.st 1 (.ld 2 [] .nil))) rfl ?_;refine GT_st rfl rfl rfl rfl (V_move rfl rfl) ?_;refine GT_st rfl rfl rfl rfl (V_add rfl rfl rfl (wrap_i64 (by omega))) ?_;refine GT_ldv rfl rfl rfl rfl rfl (V_assign rfl rfl) (GR_nil) ?_;refine GT_nil ?_
              exact GE_to (ih (k + 1) ⟨by omega, fun j hj => by by_cases e : j = k; (subst e; exact ⟨by omega, by omega, by omega⟩); exact hall j (by omega)⟩ (by omega)) ⟨rfl, rfl, trivial⟩ HS.nil
      · obtain rfl : k = ts.length := (by omega)
        refine GE_exit rfl ?_;refine GE_seq ?_;refine GE_slots (L' := []) trivial ?_;refine GE_plain (.st 0 .nil) rfl ?_;refine GT_st rfl rfl rfl rfl (V_assign rfl rfl) ?_;refine GT_nil ?_;refine GE_ret Tryz.func82 rfl (fun w hw => ?_)
        exact ⟨0, fun _ => ⟨by omega, all_of_getD hall⟩, rfl, hw.nil⟩
    · exact ⟨Nat.zero_le _, fun j hj => by omega⟩
theorem C_refFormats (hf : RdL w 8 eFmt A fs) (h : RdL w 3 eTrk A2 ts) : Con Tryz.prog 34 [.slice A fs.length c, .slice A2 ts.length c2] w (fun e : Int => e = 0 → FmtsOk fs ∧ TrksOk ts) (fun e => I e) (fun _ => []) := by
  refine Ret_of (vs := [_, _]) hm none' Tryz.func34 rfl Tryz.ntmps34 rfl ?_
  dsimp only [slotsOf]
  refine GE_seq ?_;refine GE_plain (.st 0 .nil) rfl ?_;refine GT_st rfl rfl rfl rfl (V_assign rfl rfl) ?_;refine GT_nil ?_;refine GE_seq ?_;refine GE_seq ?_;refine GE_plain (.st 0 (.st 1 (.st 2 (.st 3 (.st 4 (.st 5 (.st 6 (.st 7 .nil)))))))) rfl ?_;refine GT_st rfl rfl rfl rfl (V_move rfl rfl) ?_;refine GT_st rfl rfl rfl rfl (V_len rfl Tryz.underlying94 rfl) ?_;refine GT_st rfl rfl rfl rfl (V_eql rfl rfl rfl) ?_;refine GT_st rfl rfl rfl rfl (V_move rfl rfl) ?_;refine GT_split (d := 10) rfl (fun q1 => ?_) (fun q1 => ?_)
  · refine GT_skip rfl rfl rfl rfl rfl (by decide) rfl rfl ?_;refine GT_skip rfl rfl rfl rfl rfl (by decide) rfl rfl ?_;refine GT_skip rfl rfl rfl rfl rfl (by decide) rfl rfl ?_;refine GT_st rfl rfl rfl rfl (V_pick_t rfl rfl rfl) ?_;refine GT_nil ?_;refine GE_cond_t rfl ?_;refine GE_seq ?_;refine GE_slots (L' := []) trivial ?_;refine GE_plain (.st 0 .nil) rfl ?_;refine GT_st rfl rfl rfl rfl (V_assign rfl rfl) ?_;refine GT_nil ?_;refine GE_ret Tryz.func34 rfl (fun w hw => ?_)
    exact ⟨6, fun q => (by cases q), rfl, hw.nil⟩
  · refine GT_st_g rfl rfl rfl rfl rfl rfl rfl (V_move rfl rfl) ?_;refine GT_st_g rfl rfl rfl rfl rfl rfl rfl (V_len rfl Tryz.underlying94 rfl) ?_;refine GT_st_g rfl rfl rfl rfl rfl rfl rfl (V_gtr rfl rfl rfl) ?_;refine GT_st rfl rfl rfl rfl (V_pick_f rfl rfl rfl) ?_;refine GT_nil ?_;refine GE_cond rfl (fun q2 => ?_) (fun q2 => ?_)
    · refine GE_seq ?_;refine GE_slots (L' := []) trivial ?_;refine GE_plain (.st 0 .nil) rfl ?_;refine GT_st rfl rfl rfl rfl (V_assign rfl rfl) ?_;refine GT_nil ?_;refine GE_ret Tryz.func34 rfl (fun w hw => ?_)
      exact ⟨6, fun q => (by cases q), rfl, hw.nil⟩
    · refine GE_skip ?_;refine GE_seq ?_;refine GE_seq ?_;refine GE_slots (L' := [(0, _), (1, _)]) ⟨rfl, rfl, trivial⟩ ?_;refine GE_plain (.st 0 .nil) rfl ?_;refine GT_st rfl rfl rfl rfl (V_assign rfl rfl) ?_;refine GT_nil ?_;refine GE_block ?_;refine GE_to (GE_loop (ι := Nat) (fun k => fs.length - k) (fun k => [(0, .slice A fs.length c), (1, .slice A2 ts.length c2), (5, I k)]) (fun k => []) (fun k => k ≤ fs.length ∧ ∀ j, j < k → (fs.getD j default).Ok) ?_ 0 ?_) ⟨rfl, rfl, rfl, trivial⟩ HS.nil
      · rintro k ⟨hk, hall⟩ ih
        refine GE_seq ?_;refine GE_seq ?_;refine GE_plain (.st 0 (.st 1 (.st 2 (.st 3 .nil)))) rfl ?_;refine GT_st rfl rfl rfl rfl (V_move rfl rfl) ?_;refine GT_st rfl rfl rfl rfl (V_move rfl rfl) ?_;refine GT_st rfl rfl rfl rfl (V_len rfl Tryz.underlying94 rfl) ?_;refine GT_st rfl rfl rfl rfl (V_lss rfl rfl rfl) ?_;refine GT_nil ?_;refine GE_cond rfl (fun q3 => ?_) (fun q3 => ?_)
        · have hkl : k < fs.length := (by omega)
          refine GE_skip ?_;refine GE_seq ?_;refine GE_block ?_;refine GE_seq ?_;refine GE_slots (L' := [(0, _), (1, _), (5, _)]) ⟨rfl, rfl, rfl, trivial⟩ ?_;refine GE_plain (.st 0 (.st 1 (.st 2 (.st 3 (.ld 4 [] (.st 5 .nil)))))) rfl ?_;refine GT_st rfl rfl rfl rfl (V_move rfl rfl) ?_;refine GT_st rfl rfl rfl rfl (V_move rfl rfl) ?_;refine GT_st rfl rfl rfl rfl (V_index rfl rfl rfl Tryz.underlying94 sz_77 (k := k) rfl hkl (hf.isSome hkl)) ?_;refine GT_st rfl rfl rfl rfl (V_loadN (vs := [_, _, _, _, _, _, _, _]) rfl rfl ag_77 sz_77 rfl (show CellsAt _ _ _ (fs.getD k default).cells from hf.ats noM hkl)) ?_;refine GT_call rfl rfl rfl rfl rfl rfl rfl rfl rn_29 (fun w hw => C_refFormat) (fun _ _ => GR_nil) (fun e he => ?_)
          refine GT_st rfl rfl rfl rfl (V_assign rfl rfl) ?_;refine GT_nil ?_;refine GE_seq ?_;refine GE_slots (L' := [(0, _), (1, _), (5, _), (6, _)]) ⟨rfl, rfl, rfl, rfl, trivial⟩ ?_;refine GE_plain (.st 0 (.st 1 .nil)) rfl ?_;refine GT_st rfl rfl rfl rfl (V_move rfl rfl) ?_;refine GT_st rfl rfl rfl rfl (V_neq rfl rfl rfl) ?_;refine GT_nil ?_;refine GE_condNot rfl (fun q4 => ?_) (fun q4 => ?_)
          · refine GE_seq ?_;refine GE_slots (L' := [(6, _)]) ⟨rfl, trivial⟩ ?_;refine GE_plain (.st 0 (.st 1 .nil)) rfl ?_;refine GT_st rfl rfl rfl rfl (V_move rfl rfl) ?_;refine GT_st rfl rfl rfl rfl (V_assign rfl rfl) ?_;refine GT_nil ?_;refine GE_ret Tryz.func34 rfl (fun w hw => ?_)
            exact ⟨e, fun q => absurd q q4, rfl, hw.nil⟩
          · refine GE_skip ?_;refine GE_inBlock ?_;refine GE_plain (.st 0 (.st 1 (.ld 2 [] .nil))) rfl ?_;refine GT_st rfl rfl rfl rfl (V_move rfl rfl) ?_;refine GT_st rfl rfl rfl rfl (V_add rfl rfl rfl (wrap_i64 (by omega))) ?_;refine GT_ldv rfl rfl rfl rfl rfl (V_assign rfl rfl) (GR_nil) ?_;refine GT_nil ?_
            exact GE_to (ih (k + 1) ⟨by omega, fun j hj => by by_cases e : j = k; (subst e; exact (he (by omega)).ok); exact hall j (by omega)⟩ (by omega)) ⟨rfl, rfl, rfl, trivial⟩ HS.nil
        · obtain rfl : k = fs.length := (by omega)
          refine GE_exit rfl ?_;refine GE_seq ?_;refine GE_slots (L' := [(1, _)]) ⟨rfl, trivial⟩ ?_;refine GE_plain (.st 0 (.ld 1 [] (.st 2 .nil))) rfl ?_;refine GT_st rfl rfl rfl rfl (V_move rfl rfl) ?_;refine GT_call rfl rfl rfl rfl rfl rfl rfl rfl rn_82 (fun w hw => C_refTracks (h.sh hw)) (fun _ _ => GR_nil) (fun et het => ?_)
          refine GT_st rfl rfl rfl rfl (V_assign rfl rfl) ?_;refine GT_nil ?_;refine GE_ret Tryz.func34 rfl (fun w hw => ?_)
          exact ⟨et, fun q => ⟨⟨by omega, all_of_getD hall⟩, het q⟩, rfl, hw.nil⟩
      · exact ⟨Nat.zero_le _, fun j hj => by omega⟩
abbrev plO (f : Fmt) (A : Option Addr) (n c : Nat) : Obj := blk (plC f A n c) 304
def PI (A : Option Addr) (n c : Nat) (gs : List Nat) (fs : List Fmt) : Items := (gs.zip fs).map fun x => (x.1, plO x.2 A n c)
theorem PI_snoc {n g : Nat} {gs : List Nat} {l : List Fmt} {f : Fmt} (h : gs.length = l.length) : PI A n c (gs ++ [g]) (l ++ [f]) = PI A n c gs l ++ [(g, plO f A n c)] := by
  unfold PI; rw [List.zip_append h]; simp
structure AlbAt (w : World) (g : Nat) (A2 : Option Addr) (c2 : Nat) (fs : List Fmt) (ts : List Trk) : Prop where
  ex : ∃ (A : Option Addr) (c : Nat) (gs : List Nat), BlkAt w g [.slice A fs.length c, I ts.length] 207 ∧ gs.length = fs.length ∧ RdL w 1 ePtr A gs ∧ ∀ k, k < fs.length → BlkAt w (gs.getD k default) (plC (fs.getD k default) A2 ts.length c2) 304
theorem PI_at {M : Nat → Prop} {n : Nat} {gs : List Nat} (m : SH w0 M (PI A n c gs fs) w) (hl : gs.length = fs.length) {k : Nat} (hk : k < fs.length) : BlkAt w (gs.getD k default) (plC (fs.getD k default) A n c) 304 := by
  have h1 : (gs.zip fs)[k]? = some (gs.getD k default, fs.getD k default) := by
    have hk2 : k < gs.length := by omega
    rw [List.getElem?_zip_eq_some]
    exact ⟨getD_of default hk2, getD_of default hk⟩
  have h2 : (gs.getD k default, plO (fs.getD k default) A n c) ∈ PI A n c gs fs := List.mem_map.2 ⟨_, List.mem_of_getElem? h1, rfl⟩
  exact (m.item _ h2).2
set_option maxRecDepth 20000 in
set_option maxHeartbeats 1000000 in
theorem C_openAll (hf : RdL w 8 eFmt A fs) (h : RdL w 3 eTrk A2 ts) (hfo : FmtsOk fs) (hto : TrksOk ts) :
    Con Tryz.prog 83 [.slice A fs.length c, .slice A2 ts.length c2] w (fun y : Nat × List Nat × Option Addr × Nat × Items => y.2.1.length = fs.length ∧ Own 1 302 ePtr y.2.1 (.slice y.2.2.1 y.2.1.length y.2.2.2.1) y.2.2.2.2)
      (fun y => .tuple #[ptr y.1 0, I 0]) (fun y => (y.1, blk [.slice y.2.2.1 y.2.1.length y.2.2.2.1, I ts.length] 207) :: (y.2.2.2.2 ++ (PI A2 ts.length c2 y.2.1 fs ++ []))) := by
  obtain ⟨⟨hf1, hf2⟩, hf3⟩ := hfo
  refine Ret_of (vs := [_, _]) hm none' Tryz.func83 rfl Tryz.ntmps83 rfl ?_
  dsimp only [slotsOf]
  refine GE_seq ?_;refine GE_plain (.st 0 (.st 1 .nil)) rfl ?_;refine GT_st rfl rfl rfl rfl (V_assign rfl rfl) ?_;refine GT_st rfl rfl rfl rfl (V_assign rfl rfl) ?_;refine GT_nil ?_;refine GE_seq ?_;refine GE_seq ?_;refine GE_plain (.st 0 (.st 1 (.st 2 (.st 3 (.st 4 (.st 5 (.st 6 (.st 7 .nil)))))))) rfl ?_;refine GT_st rfl rfl rfl rfl (V_move rfl rfl) ?_;refine GT_st rfl rfl rfl rfl (V_len rfl Tryz.underlying94 rfl) ?_;refine GT_st rfl rfl rfl rfl (V_isF (V_eql rfl rfl rfl) (by omega)) ?_;refine GT_st rfl rfl rfl rfl (V_move rfl rfl) ?_;refine GT_st_g rfl rfl rfl rfl rfl rfl rfl (V_move rfl rfl) ?_;refine GT_st_g rfl rfl rfl rfl rfl rfl rfl (V_len rfl Tryz.underlying94 rfl) ?_;refine GT_st_g rfl rfl rfl rfl rfl rfl rfl (V_isF (V_gtr rfl rfl rfl) (by omega)) ?_;refine GT_st rfl rfl rfl rfl (V_pick_f rfl rfl rfl) ?_;refine GT_nil ?_;refine GE_cond_f rfl ?_;refine GE_skip ?_;refine GE_seq ?_;refine GE_slots (L' := [(0, _), (1, _)]) ⟨rfl, rfl, trivial⟩ ?_;refine GE_plain (.st 0 (.st 1 (.st 2 (.ld 3 [] (.st 4 .nil))))) rfl ?_;refine GT_st rfl rfl rfl rfl (V_move rfl rfl) ?_;refine GT_st rfl rfl rfl rfl (V_len rfl Tryz.underlying95 rfl) ?_;refine GT_st rfl rfl rfl rfl (V_build (vs := [_, _]) rfl rfl zc_207 pl_207 sa_207 rfl) ?_;refine GT_box (z := [_, _]) rfl rfl rfl rfl rfl rfl rfl (fun _ => GR_nil) (fun b21 => ?_)
  refine GT_st rfl rfl rfl rfl (V_assign rfl rfl) ?_;refine GT_nil ?_;refine GE_seq ?_;refine GE_seq ?_;refine GE_slots (L' := [(0, _), (1, _), (6, _)]) ⟨rfl, rfl, rfl, trivial⟩ ?_;refine GE_plain (.st 0 (.st 1 (.st 2 .nil))) rfl ?_;refine GT_st rfl rfl rfl rfl (V_move rfl rfl) ?_;refine GT_st rfl rfl rfl rfl (V_len rfl Tryz.underlying94 rfl) ?_;refine GT_st rfl rfl rfl rfl (V_move rfl rfl) ?_;refine GT_nil ?_;refine GE_block ?_;refine GE_to (GE_loop (ι := Nat × List Nat × (Option Addr × Nat × Items)) (fun z => fs.length - z.1) (fun z => [(1, .slice A2 ts.length c2), (6, ptr b21 0), (22, .slice A fs.length c), (23, I fs.length), (24, I z.1)]) (fun z => (b21, blk [.slice z.2.2.1 z.2.1.length z.2.2.2.1, I ts.length] 207) :: (z.2.2.2.2 ++ (PI A2 ts.length c2 z.2.1 (fs.take z.1) ++ []))) (fun z => z.1 ≤ fs.length ∧ z.2.1.length = z.1 ∧ Own 1 302 ePtr z.2.1 (.slice z.2.2.1 z.2.1.length z.2.2.2.1) z.2.2.2.2) ?_ (0, [], (none, 0, [])) ?_) ⟨rfl, rfl, rfl, rfl, rfl, trivial⟩ (HS.cons rfl HS.nil)
  · rintro ⟨k, gs, y⟩ ⟨hk, hgs, hO⟩ ih; dsimp only at hk hgs hO ih ⊢
    refine GE_seq ?_;refine GE_plain (.st 0 .nil) rfl ?_;refine GT_st rfl rfl rfl rfl (V_lss rfl rfl rfl) ?_;refine GT_nil ?_;refine GE_seq ?_;refine GE_cond rfl (fun q1 => ?_) (fun q1 => ?_)
    · have hkl : k < fs.length := (by omega); have hok := hf3 _ (getD_memT hkl); have htk : fs.take (k + 1) = fs.take k ++ [fs.getD k default] := (by rw [List.take_succ_eq_append_getElem hkl]; simp [List.getD, hkl]); have hpi : ∀ b, PI A2 ts.length c2 gs (fs.take k) ++ [(b, plO (fs.getD k default) A2 ts.length c2)] = PI A2 ts.length c2 (gs ++ [b]) (fs.take (k + 1)) := (fun b => by rw [htk, PI_snoc (by rw [List.length_take]; omega)])
      refine GE_skip ?_;refine GE_seq ?_;refine GE_block ?_;refine GE_seq ?_;refine GE_plain (.st 0 (.st 1 (.ld 2 [] (.ld 3 [] .nil)))) rfl ?_;refine GT_st rfl rfl rfl rfl (V_index rfl rfl rfl Tryz.underlying94 sz_77 (k := k) rfl hkl (hf.isSome hkl)) ?_;refine GT_st rfl rfl rfl rfl (V_loadN (vs := [_, _, _, _, _, _, _, _]) rfl rfl ag_77 sz_77 rfl (show CellsAt _ _ _ (fs.getD k default).cells from hf.ats noM hkl)) ?_;refine GT_alloc rfl rfl rfl rfl rfl zc_77 (fun _ => GR_nil) (fun b8 => ?_)
      refine GT_store (vs := [_, _, _, _, _, _, _, _]) (l' := [_, _, _, _, _, _, _, _]) rfl rfl rfl rfl rfl rfl rfl sz_77 rfl rfl (Nat.le_of_ble_eq_true rfl) rfl (GR_nil) ?_;refine GT_nil ?_;refine GE_seq ?_;refine GE_seq ?_;refine GE_plain (.st 0 (.ld 1 [] (.st 2 .nil))) rfl ?_;refine GT_st rfl rfl rfl rfl (V_loadN (vs := [_, _, _, _, _, _, _, _]) rfl rfl ag_77 sz_77 rfl (CellsAt.item rfl)) ?_;refine GT_call0 rfl rfl rfl rfl rfl rfl rfl rfl rn_138 (fun w hw => C_CheckFormat hok) (GR_nil) ?_;refine GT_st rfl rfl rfl rfl (V_assign rfl rfl) ?_;refine GT_nil ?_;refine GE_seq ?_;refine GE_slots (L' := [(1, _), (6, _), (8, _), (9, _), (22, _), (23, _), (24, _)]) ⟨rfl, rfl, rfl, rfl, rfl, rfl, rfl, trivial⟩ ?_;refine GE_plain (.st 0 (.st 1 .nil)) rfl ?_;refine GT_st rfl rfl rfl rfl (V_move rfl rfl) ?_;refine GT_st rfl rfl rfl rfl (V_isF (V_neq rfl rfl rfl) (fun q => q rfl)) ?_;refine GT_nil ?_;refine GE_cond_f rfl ?_;refine GE_skip ?_;refine GE_drawn (.st 0 (.st 1 (.st 2 (.st 3 (.st 4 (.st 5 (.st 6 (.st 7 (.ld 8 [0, 1, 2, 3, 4] (.ld 9 [0, 1, 2, 3, 4] (.ld 10 [0] (.st 11 (.st 12 (.ld 13 [] .nil)))))))))))))) [8, 9, 10, 13] (by decide +kernel) ?_;refine GT_st rfl rfl rfl rfl (V_move rfl rfl) ?_;refine GT_st rfl rfl rfl rfl (V_move rfl rfl) ?_;refine GT_st rfl rfl rfl rfl (V_nilCheck rfl rfl) ?_;refine GT_st rfl rfl rfl rfl (V_field rfl rfl fo_207_0) ?_;refine GT_st rfl rfl rfl rfl (V_load rfl rfl ag_205 (CellAt.item rfl)) ?_;refine GT_st rfl rfl rfl rfl (V_loadN (vs := [_, _, _, _, _, _, _, _]) rfl rfl ag_77 sz_77 rfl (CellsAt.item rfl)) ?_;refine GT_st rfl rfl rfl rfl (V_move rfl rfl) ?_;refine GT_st rfl rfl rfl rfl (V_build (vs := [_, _, _, _, _, _, _, _, _]) rfl rfl zc_304 pl_304 sa_304 rfl) ?_
      refine GT_box (z := [_, _, _, _, _, _, _, _, _]) rfl rfl rfl rfl rfl rfl rfl (fun _ => GR_cons rfl rfl rfl rfl (V_move rfl rfl) (GR_cons rfl rfl rfl rfl (V_move rfl rfl) (GR_cons rfl rfl rfl rfl ((by first | exact V_nilCheck rfl rfl | exact V_nilCheck_func rfl rfl | exact V_nilCheck_yield rfl rfl | exact V_nilCheck_iface rfl rfl)) (GR_cons rfl rfl rfl rfl ((by first | exact V_field rfl rfl fo_207_0 | exact V_fieldA rfl rfl fo_207_0)) (GR_cons rfl rfl rfl rfl (V_load rfl rfl ag_205 (CellAt.item rfl)) (GR_nil)))))) (fun b41 => ?_)
      refine GT_buildSlice (z := [_]) rfl rfl rfl rfl rfl Tryz.underlying205 zc_302 sz_302 (by decide) rfl rfl (fun _ => GR_cons rfl rfl rfl rfl (V_move rfl rfl) (GR_cons rfl rfl rfl rfl (V_move rfl rfl) (GR_cons rfl rfl rfl rfl ((by first | exact V_nilCheck rfl rfl | exact V_nilCheck_func rfl rfl | exact V_nilCheck_yield rfl rfl | exact V_nilCheck_iface rfl rfl)) (GR_cons rfl rfl rfl rfl ((by first | exact V_field rfl rfl fo_207_0 | exact V_fieldA rfl rfl fo_207_0)) (GR_cons rfl rfl rfl rfl (V_load rfl rfl ag_205 (CellAt.item rfl)) (GR_nil)))))) (fun b42 => ?_)
      refine GT_append (enc := ePtr) (l := gs) (m := [b41]) rfl rfl rfl rfl rfl rfl rfl hO (fun w m => RdL.own' m ePtr_len) Tryz.underlying205 zc_302 sz_302 ⟨rfl, by decide⟩ by_302 ⟨by simp only [List.length_singleton]; omega, by simp only [List.length_singleton]; omega⟩ ePtr_len ePtr_one (fun _ _ _ _ => GR_cons rfl rfl rfl rfl (V_move rfl rfl) (GR_nil)) (fun A3 c3 I3 hO3 => ?_)
      refine GT_st rfl rfl rfl rfl (V_nilCheck rfl rfl) ?_;refine GT_st rfl rfl rfl rfl (V_field rfl rfl fo_207_0) ?_;refine GT_store (vs := [_]) (l' := [_, _]) rfl rfl rfl rfl rfl rfl rfl sz_205 rfl rfl (Nat.le_of_ble_eq_true rfl) rfl (GR_nil) ?_;refine GT_nil ?_;refine GE_inBlock ?_;refine GE_slots (L' := [(1, _), (6, _), (22, _), (23, _), (24, _)]) ⟨rfl, rfl, rfl, rfl, rfl, trivial⟩ ?_;refine GE_plain (.st 0 (.ld 1 [] .nil)) rfl ?_;refine GT_st rfl rfl rfl rfl (V_add rfl rfl rfl (wrap_i64 (by omega))) ?_;refine GT_ldv rfl rfl rfl rfl rfl (V_move rfl rfl) (GR_nil) ?_;refine GT_nil ?_;refine GE_to (ih (k + 1, gs ++ [b41], (A3, c3, I3)) ⟨by dsimp only; omega, by dsimp only; rw [List.length_append, hgs]; rfl, hO3⟩ (by dsimp only; omega)) ⟨rfl, rfl, rfl, rfl, rfl, trivial⟩ (HS.eq (HS.cons rfl (HS.chunk (HS.chunk (HS.cons rfl HS.nil)))) (congrArg (fun q => (b21, blk [.slice A3 (gs ++ [b41]).length c3, I ts.length] 207) :: (I3 ++ q)) ((hpi b41).trans (List.append_nil _).symm)))
    · obtain rfl : k = fs.length := (by omega); rw [List.take_length]
      refine GE_exit rfl ?_;refine GE_seq ?_;refine GE_slots (L' := [(1, _), (6, _)]) ⟨rfl, rfl, trivial⟩ ?_;refine GE_plain (.st 0 (.st 1 (.ld 2 [] (.st 3 (.st 4 .nil))))) rfl ?_;refine GT_st rfl rfl rfl rfl (V_move rfl rfl) ?_;refine GT_st rfl rfl rfl rfl (V_move rfl rfl) ?_;refine GT_call0 rfl rfl rfl rfl rfl rfl rfl rfl rn_139 (fun w hw => C_CheckTracks (h.sh hw) hto.1 hto.2) (GR_nil) ?_;refine GT_st rfl rfl rfl rfl (V_assign rfl rfl) ?_;refine GT_st rfl rfl rfl rfl (V_assign rfl rfl) ?_;refine GT_nil ?_;refine GE_ret Tryz.func83 ⟨_, _, rfl, rfl, rfl⟩ (fun w hw => ?_)
      exact ⟨(b21, gs, y), ⟨hgs, hO⟩, rfl, hw.hs (C := cx Tryz.prog hm 0 0 _ none' fun _ _ => True) (HS.cons rfl (HS.chunk (HS.chunk HS.nil)))⟩
  · exact ⟨Nat.zero_le _, rfl, Own.nil⟩
theorem AlbAt.of {M : Nat → Prop} {g : Nat} {gs : List Nat} {I0 : Items} (m : SH w0 M ((g, blk [.slice A gs.length c, I ts.length] 207) :: (I0 ++ (PI A2 ts.length c2 gs fs ++ []))) w) (hl : gs.length = fs.length) (hO : Own 1 302 ePtr gs (.slice A gs.length c) I0) : AlbAt w g A2 c2 fs ts := by
  refine ⟨⟨A, c, gs, ?_, hl, hO.rd ePtr_len m.chunk, fun j hj => PI_at m.chunk hl hj⟩⟩
  have := BlkAt.of m (g := g) (cs := [.slice A gs.length c, I ts.length]) (t := 207)
  rwa [hl] at this
end
end Go.Proofs.YtpbflnfcgcldkaaGreatDoor.Side
/- The faces of an album that are possible, walked. -/
namespace Go.Proofs.YtpbflnfcgcldkaaGreatDoor.Side
open Go.Sx Go.Proofs Go.RowKit
section
variable {w w0 : World} {A2 : Option Addr} {c2 g b1 b2 lp i : Nat} {fs : List Fmt} {ts : List Trk}
theorem C_faces {n : Int} : Con Tryz.prog 140 [ptr g 0, I n] w (fun _ : Nat × Nat => True) (fun b => .func (.func 203) #[] #[ptr b.1 0, ptr b.2 0]) (fun b => [(b.1, blk [ptr g 0] 195), (b.2, blk [I n] 3)]) := by
  refine Ret_of (vs := [_, _]) hm none' Tryz.func140 rfl Tryz.ntmps140 rfl ?_
  dsimp only [slotsOf]
  refine GE_seq ?_;refine GE_plain (.ld 0 [] (.ld 1 [] (.st 2 .nil))) rfl ?_;refine GT_box (z := [_]) rfl rfl rfl rfl rfl rfl rfl (fun _ => GR_nil) (fun b2 => ?_)
  refine GT_box (z := [_]) rfl rfl rfl rfl rfl rfl rfl (fun _ => GR_nil) (fun b3 => ?_)
  refine GT_st rfl rfl rfl rfl (V_assign rfl rfl) ?_;refine GT_nil ?_;refine GE_seq ?_;refine GE_plain (.st 0 (.st 1 .nil)) rfl ?_;refine GT_st rfl rfl rfl rfl (V_makeFunc rfl rfl rfl) ?_;refine GT_st rfl rfl rfl rfl (V_assign rfl rfl) ?_;refine GT_nil ?_;refine GE_ret Tryz.func140 rfl (fun w hw => ?_)
  exact ⟨(b2, b3), trivial, rfl, hw.hs (C := cx Tryz.prog hm 0 0 _ none' fun _ _ => True) (HS.cons rfl (HS.cons rfl HS.nil))⟩
theorem spL_ok {d : Nat} (ho : TrksOk ts) (h : i + d ≤ ts.length) : OdOk ts (spL i d) := by
  refine ⟨by rw [spL_len]; have := ho.1; omega, fun x hx => ?_⟩
  unfold spL at hx
  obtain ⟨k, hk, rfl⟩ := List.mem_map.1 hx
  rw [List.mem_range] at hk
  omega
set_option maxRecDepth 20000 in
theorem C_faces1 {A : Option Addr} {c : Nat} {gs : List Nat} {Q : Items → Prop} {J G : Items} (hi : i ≤ ts.length) (hfo : FmtsOk fs) (hto : TrksOk ts) (hts : RdL w0 3 eTrk A2 ts) (ha : BlkAt w0 g [.slice A fs.length c, I ts.length] 207) (hgs : gs.length = fs.length) (hgr : RdL w0 1 ePtr A gs)
    (hpl : ∀ k, k < fs.length → BlkAt w0 (gs.getD k default) (plC (fs.getD k default) A2 ts.length c2) 304)
    (hY : ∀ (k d : Nat) (J : Items), k < fs.length → 1 ≤ d → i + d ≤ ts.length → Q J → ∀ G, YieldTo Tryz.prog w0 none' lp [.agg #[I k, I d]] (J ++ G) fun v H' => ∃ J', v = .bool true ∧ Q J' ∧ H' = J' ++ G)
    (hQ : Q J) (m : SH w0 none' (J ++ ((b1, blk [ptr g 0] 195) :: (b2, blk [I i] 3) :: G)) w) :
    Ret Tryz.prog 203 [.func (.yield lp) #[] #[], ptr b1 0, ptr b2 0].toArray w fun _ w' => ∃ J', Q J' ∧ SH w0 none' (J' ++ G) w' := by
  have hn24 := hto.1
  have hn8 := hfo.1
  refine Ret_ofH (vs := [_, _, _]) hm none' Tryz.func203 rfl Tryz.ntmps203 rfl m ?_
  dsimp only [slotsOf]
  refine GE_seq ?_;refine GE_plain (.st 0 (.st 1 (.st 2 (.st 3 (.st 4 (.st 5 .nil)))))) rfl ?_;refine GT_st rfl rfl rfl rfl (V_load rfl rfl ag_195 (CellAt.item rfl)) ?_;refine GT_st rfl rfl rfl rfl (V_nilCheck rfl rfl) ?_;refine GT_st rfl rfl rfl rfl (V_field rfl rfl fo_207_0) ?_;refine GT_st rfl rfl rfl rfl (V_load rfl rfl ag_205 (CellAt.old (ha.cell rfl) (noM _))) ?_;refine GT_st rfl rfl rfl rfl (V_len rfl Tryz.underlying205 rfl) ?_;refine GT_st rfl rfl rfl rfl (V_move rfl rfl) ?_;refine GT_nil ?_;refine GE_block ?_;refine GE_to (GE_loop (ι := Nat × Items) (fun z => fs.length - z.1) (fun z => [(0, .func (.yield lp) #[] #[]), (1, ptr b1 0), (2, ptr b2 0), (10, .slice A fs.length c), (11, I fs.length), (12, I z.1)]) (fun z => z.2 ++ ((b1, blk [ptr g 0] 195) :: (b2, blk [I i] 3) :: G)) (fun z => z.1 ≤ fs.length ∧ Q z.2) ?_ (0, J) ?_) ⟨rfl, rfl, rfl, rfl, rfl, rfl, trivial⟩ HS.all
  · rintro ⟨k, J1⟩ ⟨hk, hQ1⟩ ih; dsimp only at hk hQ1 ih ⊢
    refine GE_seq ?_;refine GE_plain (.st 0 .nil) rfl ?_;refine GT_st rfl rfl rfl rfl (V_lss rfl rfl rfl) ?_;refine GT_nil ?_;refine GE_seq ?_;refine GE_cond rfl (fun q1 => ?_) (fun q1 => ?_)
    · have hkl : k < fs.length := (by omega); have hkg : k < gs.length := (by omega)
      refine GE_skip ?_;refine GE_seq ?_;refine GE_block ?_;refine GE_seq ?_;refine GE_plain (.st 0 (.st 1 (.st 2 (.st 3 (.st 4 .nil))))) rfl ?_;refine GT_st rfl rfl rfl rfl (V_move rfl rfl) ?_;refine GT_st rfl rfl rfl rfl (V_index rfl rfl rfl Tryz.underlying205 sz_302 (k := k) rfl hkl (hgr.isSome hkg)) ?_;refine GT_st rfl rfl rfl rfl (V_load rfl rfl ag_302 (hgr.at0 noM hkg rfl)) ?_;refine GT_st rfl rfl rfl rfl (V_assign rfl rfl) ?_;refine GT_st rfl rfl rfl rfl (V_assign rfl rfl) ?_;refine GT_nil ?_;refine GE_seq ?_;refine GE_slots (L' := [(0, _), (1, _), (2, _), (4, _), (5, _), (10, _), (11, _), (12, _)]) ⟨rfl, rfl, rfl, rfl, rfl, rfl, rfl, rfl, trivial⟩ ?_;refine GE_plain (.st 0 (.st 1 (.st 2 .nil))) rfl ?_;refine GT_st rfl rfl rfl rfl (V_load rfl rfl ag_3 (CellAt.item rfl)) ?_;refine GT_st rfl rfl rfl rfl (V_add rfl rfl rfl (wrap_i64 (by omega))) ?_;refine GT_st rfl rfl rfl rfl (V_assign rfl rfl) ?_;refine GT_nil ?_;refine GE_block ?_;refine GE_to (GE_loop (ι := Nat × Items) (fun z => ts.length + 1 - z.1) (fun z => [(0, .func (.yield lp) #[] #[]), (1, ptr b1 0), (2, ptr b2 0), (4, I k), (5, ptr (gs.getD k default) 0), (6, I (i + z.1 : Nat)), (10, .slice A fs.length c), (11, I fs.length), (12, I k)]) (fun z => z.2 ++ ((b1, blk [ptr g 0] 195) :: (b2, blk [I i] 3) :: G)) (fun z => 1 ≤ z.1 ∧ Q z.2) ?_ (1, J1) ?_) ⟨rfl, rfl, rfl, rfl, rfl, rfl, rfl, rfl, rfl, trivial⟩ HS.all
      · rintro ⟨d, J2⟩ ⟨hd, hQ2⟩ ih2; dsimp only at hd hQ2 ih2 ⊢
        refine GE_seq ?_;refine GE_seq ?_;refine GE_plain (.st 0 (.st 1 (.st 2 (.st 3 (.st 4 (.st 5 (.st 6 (.st 7 (.st 8 (.st 9 (.ld 10 [] (.ld 11 [] (.st 12 .nil))))))))))))) rfl ?_;refine GT_st rfl rfl rfl rfl (V_move rfl rfl) ?_;refine GT_st rfl rfl rfl rfl (V_load rfl rfl ag_195 (CellAt.item rfl)) ?_;refine GT_st rfl rfl rfl rfl (V_nilCheck rfl rfl) ?_;refine GT_st rfl rfl rfl rfl (V_field rfl rfl fo_207_1) ?_;refine GT_st rfl rfl rfl rfl (V_load rfl rfl ag_3 (CellAt.old (ha.cell rfl) (noM _))) ?_;refine GT_st rfl rfl rfl rfl (V_leq rfl rfl rfl) ?_;refine GT_st rfl rfl rfl rfl (V_move rfl rfl) ?_;refine GT_split (d := 25) rfl (fun q2 => ?_) (fun q2 => ?_)
        · have hid : i + d ≤ ts.length := (by omega)
          refine GT_st_g rfl rfl rfl rfl rfl rfl rfl (V_move rfl rfl) ?_;refine GT_st_g rfl rfl rfl rfl rfl rfl rfl (V_load rfl rfl ag_3 (CellAt.item rfl)) ?_;refine GT_st_g rfl rfl rfl rfl rfl rfl rfl (V_move rfl rfl) ?_;refine GT_call_g rfl rfl rfl rfl rfl rfl rfl rfl rfl rfl rfl rn_205 (fun w hw => C_span (i := i) (n := d) (by omega)) (fun _ _ => GR_nil) (fun ys hys => ?_)
          refine GT_call_g rfl rfl rfl rfl rfl rfl rfl rfl rfl rfl rfl rn_204 (fun w hw => C_possibleG (c2 := ys.2.1) (hfo.2 _ (getD_memT hkl)) hto.2 ((hpl k hkl).sh hw.nil) (hts.sh hw.nil) (hys.rd eN_len (hw.hs (C := cx Tryz.prog hm 0 0 w0 none' fun _ _ => True) HS.last)) (spL_ok hto hid)) (fun _ _ => GR_nil) (fun bp _ => ?_)
          refine GT_st rfl rfl rfl rfl (V_pick_t rfl rfl rfl) ?_;refine GT_nil ?_;refine GE_condB rfl (fun q3 => ?_) (fun q3 => ?_)
          · refine GE_skip ?_;refine GE_seq ?_;refine GE_block ?_;refine GE_seq ?_;refine GE_slots (L' := [(0, _), (1, _), (2, _), (4, _), (5, _), (6, _), (10, _), (11, _), (12, _), (26, _), (27, _), (28, _), (29, _), (30, _)]) ⟨rfl, rfl, rfl, rfl, rfl, rfl, rfl, rfl, rfl, rfl, rfl, rfl, rfl, rfl, trivial⟩ ?_;refine GE_plain (.st 0 (.st 1 (.st 2 (.st 3 (.st 4 (.st 5 (.ld 6 [] (.st 7 .nil)))))))) rfl ?_;refine GT_st rfl rfl rfl rfl (V_move rfl rfl) ?_;refine GT_st rfl rfl rfl rfl (V_move rfl rfl) ?_;refine GT_st rfl rfl rfl rfl (V_move rfl rfl) ?_;refine GT_st rfl rfl rfl rfl (V_load rfl rfl ag_3 (CellAt.item rfl)) ?_;refine GT_st rfl rfl rfl rfl (V_sub rfl rfl rfl ((wrap_i64 (by omega)).trans (show _ = ((d : Nat) : Int) by omega))) ?_;refine GT_st rfl rfl rfl rfl (V_build (vs := [_, _]) rfl rfl zc_201 pl_201 sa_201 rfl) ?_;refine GT_yield rfl rfl rfl rfl rfl rfl rfl (YieldTo.chunk (hY k d J2 hkl hd hid hQ2 _)) (fun _ _ _ => GR_nil) (fun v H' hR => ?_)
            obtain ⟨J3, rfl, hQ3, rfl⟩ := hR
            refine GT_st rfl rfl rfl rfl (V_notB rfl rfl) ?_;refine GT_nil ?_;refine GE_cond_f rfl ?_;refine GE_skip ?_;refine GE_inBlock ?_;refine GE_slots (L' := [(0, _), (1, _), (2, _), (4, _), (5, _), (6, _), (10, _), (11, _), (12, _), (26, _), (27, _), (28, _), (29, _), (30, _)]) ⟨rfl, rfl, rfl, rfl, rfl, rfl, rfl, rfl, rfl, rfl, rfl, rfl, rfl, rfl, trivial⟩ ?_;refine GE_plain (.st 0 (.st 1 (.ld 2 [] .nil))) rfl ?_;refine GT_st rfl rfl rfl rfl (V_move rfl rfl) ?_;refine GT_st rfl rfl rfl rfl (V_add rfl rfl rfl (wrap_i64 (by omega))) ?_;refine GT_ldv rfl rfl rfl rfl rfl (V_assign rfl rfl) (GR_nil) ?_;refine GT_nil ?_
            exact GE_to (ih2 (d + 1, J3) ⟨by dsimp only; omega, hQ3⟩ (by dsimp only; omega)) ⟨rfl, rfl, rfl, rfl, rfl, lookI rfl (by dsimp only; omega), rfl, rfl, rfl, trivial⟩ (HS.chunk (HS.cons rfl (HS.cons rfl HS.last)))
          · refine GE_exit rfl ?_;refine GE_inBlock ?_;refine GE_slots (L' := [(0, _), (1, _), (2, _), (10, _), (11, _), (12, _), (26, _), (27, _), (28, _), (29, _), (30, _)]) ⟨rfl, rfl, rfl, rfl, rfl, rfl, rfl, rfl, rfl, rfl, rfl, trivial⟩ ?_;refine GE_plain (.st 0 (.ld 1 [] .nil)) rfl ?_;refine GT_st rfl rfl rfl rfl (V_add rfl rfl rfl (wrap_i64 (by omega))) ?_;refine GT_ldv rfl rfl rfl rfl rfl (V_move rfl rfl) (GR_nil) ?_;refine GT_nil ?_
            exact GE_to (ih (k + 1, J2) ⟨by dsimp only; omega, hQ2⟩ (by dsimp only; omega)) ⟨rfl, rfl, rfl, rfl, rfl, rfl, trivial⟩ (HS.chunk (HS.cons rfl (HS.cons rfl HS.last)))
        · refine GT_skip rfl rfl rfl rfl rfl (by decide) rfl rfl ?_;refine GT_skip rfl rfl rfl rfl rfl (by decide) rfl rfl ?_;refine GT_skip rfl rfl rfl rfl rfl (by decide) rfl rfl ?_;refine GT_skip_ld rfl rfl rfl rfl rfl (by decide) rfl rfl rfl (GR_nil) ?_;refine GT_skip_ld rfl rfl rfl rfl rfl (by decide) rfl rfl rfl (GR_nil) ?_;refine GT_st rfl rfl rfl rfl (V_pick_f rfl rfl rfl) ?_;refine GT_nil ?_;refine GE_cond_f rfl ?_;refine GE_exit rfl ?_;refine GE_inBlock ?_;refine GE_slots (L' := [(0, _), (1, _), (2, _), (10, _), (11, _), (12, _), (26, _), (27, _), (28, _), (29, _), (30, _)]) ⟨rfl, rfl, rfl, rfl, rfl, rfl, rfl, rfl, rfl, rfl, rfl, trivial⟩ ?_;refine GE_plain (.st 0 (.ld 1 [] .nil)) rfl ?_;refine GT_st rfl rfl rfl rfl (V_add rfl rfl rfl (wrap_i64 (by omega))) ?_;refine GT_ldv rfl rfl rfl rfl rfl (V_move rfl rfl) (GR_nil) ?_;refine GT_nil ?_
          exact GE_to (ih (k + 1, J2) ⟨by dsimp only; omega, hQ2⟩ (by dsimp only; omega)) ⟨rfl, rfl, rfl, rfl, rfl, rfl, trivial⟩ (HS.chunk (HS.cons rfl (HS.cons rfl HS.last)))
      · exact ⟨Nat.le_refl _, hQ1⟩
    · obtain rfl : k = fs.length := (by omega)
      refine GE_exit rfl ?_;refine GE_end Tryz.func203 rfl (fun w hw => ⟨J1, hQ1, hw.hs (C := cx Tryz.prog hm 0 0 w0 none' fun _ _ => True) (HS.chunk HS.last)⟩)
      skip
  · exact ⟨Nat.zero_le _, hQ⟩
end
end Go.Proofs.YtpbflnfcgcldkaaGreatDoor.Side
/- The best plans from each track on, walked. -/
namespace Go.Proofs.YtpbflnfcgcldkaaGreatDoor.Side
open Go.Sx Go.Proofs Go.RowKit
def NoneAt (w : World) : Prop := ∀ j v, ([I (-1), I 0] : List Value)[j]? = some v → w.cell? ⟨0, j, none⟩ = some v
theorem NoneAt.sh {w0 w : World} {H : Items} (h : NoneAt w0) (m : SH w0 none' H w) : NoneAt w := fun j v hv => m.cellOld (h j v hv) (fun q => q)
theorem NoneAt.cells {C : Cx} {H : Items} (h : NoneAt C.w0) (hM : ∀ b, ¬ C.M b) : CellsAt C H ⟨0, 0, none⟩ [I (-1), I 0] := fun i v hv => CellAt.old (by rw [add_lit, Nat.zero_add]; exact h i v hv) (hM _)
abbrev Wth := Int × Int
def eW (x : Wth) : List Value := [I x.1, I x.2]
theorem eW_len (x : Wth) : (eW x).length = 2 := rfl
theorem eW_one (x : Wth) : ∀ u ∈ eW x, u.oneCell' = true := fun u h => by
  unfold eW at h; simp only [List.mem_cons, List.not_mem_nil, or_false] at h
  rcases h with rfl | rfl <;> rfl
def nW : Wth := (-1, 0)
theorem eqNone (a b : Int) : (a == -1 && b == 0) = decide ((a, b) = nW) := by
  unfold nW
  by_cases h1 : a = -1
  · by_cases h2 : b = 0 <;> simp [h1, h2]
  · simp [h1]
theorem flat_len {l : List Wth} : (l.flatMap eW).length = 2 * l.length := by
  induction l with
  | nil => rfl
  | cons x l ih => rw [List.flatMap_cons, List.length_append, ih, eW_len, List.length_cons]; omega
theorem wSet {l : List Wth} {i : Nat} {x : Wth} (h : i < l.length) : setsAt (l.flatMap eW) (0 + i * 2) (eW x) = (l.set i x).flatMap eW := by
  rw [Nat.zero_add]; exact flat_set eW_len (by decide) l i x h
theorem wSet_len {l : List Wth} {i : Nat} (h : i < l.length) : 0 + i * 2 + 2 ≤ (l.flatMap eW).length := by rw [flat_len]; omega
theorem getD_set {α : Type} [Inhabited α] {l : List α} {i j : Nat} {x : α} : (l.set i x).getD j default = if i = j ∧ i < l.length then x else l.getD j default := by
  rw [List.getD, List.getElem?_set, List.getD]
  by_cases e : i = j
  · subst e
    by_cases h : i < l.length
    · simp [h]
    · simp [h]
  · simp [e]
def RowB (n : Nat) (ws : List Wth) (j : Nat) : Prop := ws.getD j default = nW ∨ ((0 ≤ (ws.getD j default).1 ∧ (ws.getD j default).1 ≤ 1048576 * ((n : Int) - j)) ∧ 0 ≤ (ws.getD j default).2 ∧ (ws.getD j default).2 ≤ (n : Int) - j)
def RowF (n : Nat) (ws fl : List Wth) (j : Nat) : Prop := ws.getD j default = nW ∨ ∃ d : Nat, (fl.getD j default).2 = d ∧ 1 ≤ d ∧ j + d ≤ n ∧ ws.getD (j + d) default ≠ nW
structure BI (n z : Nat) (ws fl : List Wth) : Prop where
  lw : ws.length = 25
  lf : fl.length = 24
  last : ws.getD n default = (0, 0)
  row : ∀ j, z ≤ j → j ≤ n → RowB n ws j
  fce : ∀ j, z ≤ j → j < n → RowF n ws fl j
theorem BI.init {n : Nat} (h : n ≤ 24) : BI n n (List.replicate 25 (0, 0)) (List.replicate 24 (0, 0)) := by
  have e : (List.replicate 25 ((0, 0) : Wth)).getD n default = (0, 0) := by rw [List.getD, List.getElem?_replicate, if_pos (by omega)]; rfl
  refine ⟨rfl, rfl, e, fun j h1 h2 => ?_, fun j h1 h2 => by omega⟩
  obtain rfl : j = n := by omega
  right
  rw [e]
  dsimp only; omega
theorem BI.none {n i : Nat} {ws fl : List Wth} (h : BI n (i + 1) ws fl) (hi : i < n) (hn : n ≤ 24) : BI n i (ws.set i nW) fl := by
  have hl := h.lw
  have g : ∀ j, (ws.set i nW).getD j default = if i = j then nW else ws.getD j default := fun j => by
    rw [getD_set]; by_cases e : i = j
    · rw [if_pos ⟨e, by omega⟩, if_pos e]
    · rw [if_neg (fun q => e q.1), if_neg e]
  refine ⟨by rw [List.length_set, hl], h.lf, by rw [g, if_neg (by omega)]; exact h.last, fun j h1 h2 => ?_, fun j h1 h2 => ?_⟩
  · unfold RowB; rw [g]
    by_cases e : i = j
    · rw [if_pos e]; exact .inl rfl
    · rw [if_neg e]; exact h.row j (by omega) h2
  · unfold RowF; rw [g]
    by_cases e : i = j
    · rw [if_pos e]; exact .inl rfl
    · rw [if_neg e]
      rcases h.fce j (by omega) h2 with q | ⟨d, q1, q2, q3, q4⟩
      · exact .inl q
      · refine .inr ⟨d, q1, q2, q3, ?_⟩
        rw [g, if_neg (by omega)]; exact q4
theorem BI.put {n i d : Nat} {k : Int} {ws fl : List Wth} {x : Wth} (h : BI n i ws fl) (hi : i < n) (hn : n ≤ 24) (h1 : 1 ≤ d) (h2 : i + d ≤ n) (hr : ws.getD (i + d) default ≠ nW) (hx : (0 ≤ x.1 ∧ x.1 ≤ 1048576 * ((n : Int) - i)) ∧ 0 ≤ x.2 ∧ x.2 ≤ (n : Int) - i) : BI n i (ws.set i x) (fl.set i (k, d)) := by
  have hl := h.lw
  have hf := h.lf
  have g : ∀ j, (ws.set i x).getD j default = if i = j then x else ws.getD j default := fun j => by
    rw [getD_set]; by_cases e : i = j
    · rw [if_pos ⟨e, by omega⟩, if_pos e]
    · rw [if_neg (fun q => e q.1), if_neg e]
  have g2 : ∀ j, (fl.set i (k, (d : Int))).getD j default = if i = j then (k, (d : Int)) else fl.getD j default := fun j => by
    rw [getD_set]; by_cases e : i = j
    · rw [if_pos ⟨e, by omega⟩, if_pos e]
    · rw [if_neg (fun q => e q.1), if_neg e]
  refine ⟨by rw [List.length_set, hl], by rw [List.length_set, hf], by rw [g, if_neg (by omega)]; exact h.last, fun j h1 h2 => ?_, fun j h3 h4 => ?_⟩
  · unfold RowB; rw [g]
    by_cases e : i = j
    · rw [if_pos e]; subst e; exact .inr hx
    · rw [if_neg e]; exact h.row j h1 h2
  · unfold RowF; rw [g, g2]
    by_cases e : i = j
    · subst e
      refine .inr ⟨d, by rw [if_pos rfl], h1, h2, ?_⟩
      rw [g, if_neg (by omega)]; exact hr
    · rw [if_neg e, if_neg e]
      rcases h.fce j h3 h4 with q | ⟨d', q1, q2, q3, q4⟩
      · exact .inl q
      · refine .inr ⟨d', q1, q2, q3, ?_⟩
        rw [g, if_neg (by omega)]; exact q4
theorem BI.rest {n i d : Nat} {ws fl : List Wth} {c : Int} (h : BI n i ws fl) (h1 : 1 ≤ d) (h2 : i + d ≤ n) (hr : ws.getD (i + d) default ≠ nW) (hc : 0 ≤ c ∧ c ≤ 1048576) :
    (0 ≤ (ws.getD (i + d) default).1 + c ∧ (ws.getD (i + d) default).1 + c ≤ 1048576 * ((n : Int) - i)) ∧ 0 ≤ (ws.getD (i + d) default).2 + 1 ∧ (ws.getD (i + d) default).2 + 1 ≤ (n : Int) - i := by
  rcases h.row (i + d) (by omega) h2 with q | q
  · exact absurd q hr
  · omega
section
variable {w w0 : World} {A2 : Option Addr} {c2 g : Nat} {fs : List Fmt} {ts : List Trk}
theorem C_less {a b c d : Int} (hN : NoneAt w) : Con Tryz.prog 141 [.agg #[I a, I b], .agg #[I c, I d]] w (fun _ : Bool => True) (fun r => .bool r) (fun _ => []) := by
  refine Ret_of (vs := [_, _]) hm none' Tryz.func141 rfl Tryz.ntmps141 rfl ?_
  dsimp only [slotsOf]
  refine GE_seq ?_;refine GE_plain (.ld 0 [] (.ld 1 [] (.st 2 .nil))) rfl ?_;refine GT_box (z := [_, _]) rfl rfl rfl rfl rfl rfl rfl (fun _ => GR_nil) (fun b2 => ?_)
  refine GT_box (z := [_, _]) rfl rfl rfl rfl rfl rfl rfl (fun _ => GR_nil) (fun b3 => ?_)
  refine GT_st rfl rfl rfl rfl (V_assign rfl rfl) ?_;refine GT_nil ?_;refine GE_seq ?_;refine GE_seq ?_;refine GE_plain (.st 0 (.st 1 (.st 2 (.st 3 (.st 4 (.st 5 (.st 6 (.st 7 .nil)))))))) rfl ?_;refine GT_st rfl rfl rfl rfl (V_loadN (vs := [_, _]) rfl rfl ag_198 sz_198 rfl (CellsAt.item rfl)) ?_;refine GT_st rfl rfl rfl rfl (V_loadN (vs := [_, _]) rfl rfl ag_198 sz_198 rfl (NoneAt.cells hN (noM (P := Tryz.prog)))) ?_;refine GT_st rfl rfl rfl rfl (V_eqv (v' := .bool (decide ((c, d) = nW))) (V_eqlArr2 rfl rfl rfl Tryz.underlying198 Tryz.underlying2 sz_2 eg_198) (congrArg Value.bool (eqNone c d))) ?_;refine GT_st rfl rfl rfl rfl (V_move rfl rfl) ?_;refine GT_split (d := 8) rfl (fun q1 => ?_) (fun q1 => ?_)
  · refine GT_skip rfl rfl rfl rfl rfl (by decide) rfl rfl ?_;refine GT_skip rfl rfl rfl rfl rfl (by decide) rfl rfl ?_;refine GT_skip rfl rfl rfl rfl rfl (by decide) rfl rfl ?_;refine GT_st rfl rfl rfl rfl (V_pick_t rfl rfl rfl) ?_;refine GT_nil ?_;refine GE_cond_t rfl ?_;refine GE_seq ?_;refine GE_slots (L' := [(2, _)]) ⟨rfl, trivial⟩ ?_;refine GE_plain (.st 0 (.st 1 (.st 2 (.st 3 .nil)))) rfl ?_;refine GT_st rfl rfl rfl rfl (V_loadN (vs := [_, _]) rfl rfl ag_198 sz_198 rfl (CellsAt.item rfl)) ?_;refine GT_st rfl rfl rfl rfl (V_loadN (vs := [_, _]) rfl rfl ag_198 sz_198 rfl (NoneAt.cells hN (noM (P := Tryz.prog)))) ?_;refine GT_st rfl rfl rfl rfl (V_neqArr2 rfl rfl rfl Tryz.underlying198 Tryz.underlying2 sz_2 eg_198) ?_;refine GT_st rfl rfl rfl rfl (V_assign rfl rfl) ?_;refine GT_nil ?_;refine GE_ret Tryz.func141 rfl (fun w hw => ?_)
    exact ⟨_, trivial, rfl, hw.nil⟩
  · refine GT_st_g rfl rfl rfl rfl rfl rfl rfl (V_loadN (vs := [_, _]) rfl rfl ag_198 sz_198 rfl (CellsAt.item rfl)) ?_;refine GT_st_g rfl rfl rfl rfl rfl rfl rfl (V_loadN (vs := [_, _]) rfl rfl ag_198 sz_198 rfl (NoneAt.cells hN (noM (P := Tryz.prog)))) ?_;refine GT_st_g rfl rfl rfl rfl rfl rfl rfl (V_eqv (v' := .bool (decide ((a, b) = nW))) (V_eqlArr2 rfl rfl rfl Tryz.underlying198 Tryz.underlying2 sz_2 eg_198) (congrArg Value.bool (eqNone a b))) ?_;refine GT_st rfl rfl rfl rfl (V_pick_f rfl rfl rfl) ?_;refine GT_nil ?_;refine GE_cond rfl (fun q2 => ?_) (fun q2 => ?_)
    · refine GE_seq ?_;refine GE_slots (L' := [(2, _)]) ⟨rfl, trivial⟩ ?_;refine GE_plain (.st 0 (.st 1 (.st 2 (.st 3 .nil)))) rfl ?_;refine GT_st rfl rfl rfl rfl (V_loadN (vs := [_, _]) rfl rfl ag_198 sz_198 rfl (CellsAt.item rfl)) ?_;refine GT_st rfl rfl rfl rfl (V_loadN (vs := [_, _]) rfl rfl ag_198 sz_198 rfl (NoneAt.cells hN (noM (P := Tryz.prog)))) ?_;refine GT_st rfl rfl rfl rfl (V_neqArr2 rfl rfl rfl Tryz.underlying198 Tryz.underlying2 sz_2 eg_198) ?_;refine GT_st rfl rfl rfl rfl (V_assign rfl rfl) ?_;refine GT_nil ?_;refine GE_ret Tryz.func141 rfl (fun w hw => ?_)
      exact ⟨_, trivial, rfl, hw.nil⟩
    · refine GE_skip ?_;refine GE_seq ?_;refine GE_slots (L' := [(2, _), (3, _)]) ⟨rfl, rfl, trivial⟩ ?_;refine GE_plain (.st 0 (.st 1 (.st 2 (.st 3 (.st 4 (.st 5 (.st 6 (.st 7 (.st 8 (.st 9 (.st 10 (.st 11 (.st 12 (.st 13 (.st 14 (.st 15 (.st 16 (.st 17 (.st 18 (.st 19 .nil)))))))))))))))))))) rfl ?_;refine GT_st rfl rfl rfl rfl (V_indexArr (kk := 0) rfl rfl rfl Tryz.underlying198 sz_2 rfl (by omega)) ?_;refine GT_st rfl rfl rfl rfl (V_load rfl rfl ag_2 (CellAt.item rfl)) ?_;refine GT_st rfl rfl rfl rfl (V_indexArr (kk := 0) rfl rfl rfl Tryz.underlying198 sz_2 rfl (by omega)) ?_;refine GT_st rfl rfl rfl rfl (V_load rfl rfl ag_2 (CellAt.item rfl)) ?_;refine GT_st rfl rfl rfl rfl (V_lss rfl rfl rfl) ?_;refine GT_st rfl rfl rfl rfl (V_move rfl rfl) ?_;refine GT_split (d := 21) rfl (fun h1 => ?_) (fun h1 => ?_)
      · refine GT_skip rfl rfl rfl rfl rfl (by decide) rfl rfl ?_;refine GT_skip rfl rfl rfl rfl rfl (by decide) rfl rfl ?_;refine GT_skip rfl rfl rfl rfl rfl (by decide) rfl rfl ?_;refine GT_skip rfl rfl rfl rfl rfl (by decide) rfl rfl ?_;refine GT_skip rfl rfl rfl rfl rfl (by decide) rfl rfl ?_;refine GT_skip rfl rfl rfl rfl rfl (by decide) rfl rfl ?_;refine GT_skip rfl rfl rfl rfl rfl (by decide) rfl rfl ?_;refine GT_skip rfl rfl rfl rfl rfl (by decide) rfl rfl ?_;refine GT_skip rfl rfl rfl rfl rfl (by decide) rfl rfl ?_;refine GT_skip rfl rfl rfl rfl rfl (by decide) rfl rfl ?_;refine GT_skip rfl rfl rfl rfl rfl (by decide) rfl rfl ?_;refine GT_skip rfl rfl rfl rfl rfl (by decide) rfl rfl ?_;refine GT_st rfl rfl rfl rfl (V_pick_t rfl rfl rfl) ?_;refine GT_st rfl rfl rfl rfl (V_assign rfl rfl) ?_;refine GT_nil ?_;refine GE_ret Tryz.func141 rfl (fun w hw => ?_)
        exact ⟨_, trivial, rfl, hw.nil⟩
      · refine GT_st_g rfl rfl rfl rfl rfl rfl rfl (V_indexArr (kk := 0) rfl rfl rfl Tryz.underlying198 sz_2 rfl (by omega)) ?_;refine GT_st_g rfl rfl rfl rfl rfl rfl rfl (V_load rfl rfl ag_2 (CellAt.item rfl)) ?_;refine GT_st_g rfl rfl rfl rfl rfl rfl rfl (V_indexArr (kk := 0) rfl rfl rfl Tryz.underlying198 sz_2 rfl (by omega)) ?_;refine GT_st_g rfl rfl rfl rfl rfl rfl rfl (V_load rfl rfl ag_2 (CellAt.item rfl)) ?_;refine GT_st_g rfl rfl rfl rfl rfl rfl rfl (V_eql rfl rfl rfl) ?_;refine GT_st_g rfl rfl rfl rfl rfl rfl rfl (V_move rfl rfl) ?_;refine GT_split (d := 27) rfl (fun h2 => ?_) (fun h2 => ?_)
        · refine GT_st_g rfl rfl rfl rfl rfl rfl rfl (V_indexArr (kk := 1) rfl rfl rfl Tryz.underlying198 sz_2 rfl (by omega)) ?_;refine GT_st_g rfl rfl rfl rfl rfl rfl rfl (V_load rfl rfl ag_2 (CellAt.item rfl)) ?_;refine GT_st_g rfl rfl rfl rfl rfl rfl rfl (V_indexArr (kk := 1) rfl rfl rfl Tryz.underlying198 sz_2 rfl (by omega)) ?_;refine GT_st_g rfl rfl rfl rfl rfl rfl rfl (V_load rfl rfl ag_2 (CellAt.item rfl)) ?_;refine GT_st_g rfl rfl rfl rfl rfl rfl rfl (V_lss rfl rfl rfl) ?_;refine GT_st_g rfl rfl rfl rfl rfl rfl rfl (V_pick_t rfl rfl rfl) ?_;refine GT_st rfl rfl rfl rfl (V_pick_f rfl rfl rfl) ?_;refine GT_st rfl rfl rfl rfl (V_assign rfl rfl) ?_;refine GT_nil ?_;refine GE_ret Tryz.func141 rfl (fun w hw => ?_)
          exact ⟨_, trivial, rfl, hw.nil⟩
        · refine GT_skip rfl rfl rfl rfl rfl (by decide) rfl rfl ?_;refine GT_skip rfl rfl rfl rfl rfl (by decide) rfl rfl ?_;refine GT_skip rfl rfl rfl rfl rfl (by decide) rfl rfl ?_;refine GT_skip rfl rfl rfl rfl rfl (by decide) rfl rfl ?_;refine GT_skip rfl rfl rfl rfl rfl (by decide) rfl rfl ?_;refine GT_st_g rfl rfl rfl rfl rfl rfl rfl (V_pick_f rfl rfl rfl) ?_;refine GT_st rfl rfl rfl rfl (V_pick_f rfl rfl rfl) ?_;refine GT_st rfl rfl rfl rfl (V_assign rfl rfl) ?_;refine GT_nil ?_;refine GE_ret Tryz.func141 rfl (fun w hw => ?_)
          exact ⟨_, trivial, rfl, hw.nil⟩
end
end Go.Proofs.YtpbflnfcgcldkaaGreatDoor.Side
/- The best plans from each track on, and the best plan of an album, walked. -/
namespace Go.Proofs.YtpbflnfcgcldkaaGreatDoor.Side
open Go.Sx Go.Proofs Go.RowKit
theorem all_one {l : List Wth} : (l.flatMap eW).all (·.oneCell') = true := by
  rw [List.all_eq_true]
  intro u hu
  obtain ⟨x, _, hx⟩ := List.mem_flatMap.1 hu
  exact eW_one x u hx
theorem setsAll {l vs : List Value} (h : vs.length = l.length) : setsAt l 0 vs = vs := by
  rw [setsAt_eq _ _ _ (by omega)]; simp [h]
theorem drop_all {l : List Value} : (l.drop 0).take l.length = l := by simp
abbrev wsB (l : List Wth) : Obj := blk (l.flatMap eW) 199
abbrev flB (l : List Wth) : Obj := blk (l.flatMap eW) 202
abbrev w0L : List Wth := List.replicate 25 (0, 0)
abbrev f0L : List Wth := List.replicate 24 (0, 0)
section
variable {w w0 : World} {A2 : Option Addr} {c2 g : Nat} {fs : List Fmt} {ts : List Trk}
set_option maxRecDepth 20000 in
set_option maxHeartbeats 2000000 in
theorem C_best (hN : NoneAt w) (hA : AlbAt w g A2 c2 fs ts) (hfo : FmtsOk fs) (hto : TrksOk ts) (hts : RdL w 3 eTrk A2 ts) :
    Con Tryz.prog 84 [ptr g 0] w (fun y : List Wth × List Wth => BI ts.length 0 y.1 y.2) (fun y => .tuple #[.agg (y.1.flatMap eW).toArray, .agg (y.2.flatMap eW).toArray]) (fun _ => []) := by
  obtain ⟨⟨A, c, gs, ha, hgs, hgr, hpl⟩⟩ := hA
  have hn := hto.1
  have hn8 := hfo.1
  refine Ret_of (vs := [_]) hm none' Tryz.func84 rfl Tryz.ntmps84 rfl ?_
  dsimp only [slotsOf]
  refine GE_seq ?_;refine GE_plain (.ld 0 [] (.ld 1 [] (.ld 2 [] .nil))) rfl ?_;refine GT_box (z := [_]) rfl rfl rfl rfl rfl rfl rfl (fun _ => GR_nil) (fun b1 => ?_)
  refine GT_alloc rfl rfl rfl rfl rfl zc_199 (fun _ => GR_nil) (fun b2 => ?_)
  refine GT_alloc rfl rfl rfl rfl rfl zc_202 (fun _ => GR_nil) (fun b3 => ?_)
  refine GT_nil ?_;refine GE_seq ?_;refine GE_plain (.ld 0 [] .nil) rfl ?_;refine GT_alloc rfl rfl rfl rfl rfl zc_199 (fun _ => GR_nil) (fun b4 => ?_)
  refine GT_nil ?_;refine GE_seq ?_;refine GE_plain (.ld 0 [] .nil) rfl ?_;refine GT_alloc rfl rfl rfl rfl rfl zc_202 (fun _ => GR_nil) (fun b5 => ?_)
  refine GT_nil ?_;refine GE_seq ?_;refine GE_seq ?_;refine GE_plain (.st 0 (.st 1 (.st 2 (.st 3 (.st 4 (.ld 5 [] (.ld 6 [] .nil))))))) rfl ?_;refine GT_st rfl rfl rfl rfl (V_load rfl rfl ag_195 (CellAt.item rfl)) ?_;refine GT_st rfl rfl rfl rfl (V_nilCheck rfl rfl) ?_;refine GT_st rfl rfl rfl rfl (V_field rfl rfl fo_207_1) ?_;refine GT_st rfl rfl rfl rfl (V_load rfl rfl ag_3 (CellAt.old (ha.cell rfl) (fun q => q))) ?_;refine GT_st rfl rfl rfl rfl (V_sub rfl rfl rfl (wrap_i64 (by omega))) ?_;refine GT_alloc rfl rfl rfl rfl rfl zc_3 (fun _ => GR_nil) (fun b6 => ?_)
  refine GT_store (vs := [_]) (l' := [_]) rfl rfl rfl rfl rfl rfl rfl sz_3 rfl rfl (Nat.le_of_ble_eq_true rfl) rfl (GR_nil) ?_;refine GT_nil ?_;refine GE_block ?_;refine GE_to (GE_loopD (ι := Nat × Nat × List Wth × List Wth × List Nat) (fun z => z.1) (fun z => [(1, ptr b1 0), (2, ptr b2 0), (3, ptr b3 0), (4, ptr b4 0), (5, ptr b5 0), (6, ptr z.2.1 0)]) (fun z => dq z.2.2.2.2) (fun z => (z.2.1, blk [I ((z.1 : Int) - 1)] 3) :: (b4, wsB z.2.2.1) :: (b5, flB z.2.2.2.1) :: (b1, blk [ptr g 0] 195) :: (b2, wsB w0L) :: (b3, flB f0L) :: iq z.2.2.2.2) (fun z => z.1 ≤ ts.length ∧ BI ts.length z.1 z.2.2.1 z.2.2.2.1) ?_ (ts.length, b6, w0L, f0L, []) ?_) ⟨rfl, rfl, rfl, rfl, rfl, rfl, trivial⟩ (HS.cons rfl (HS.cons rfl (HS.cons rfl (HS.cons rfl (HS.cons rfl (HS.cons rfl HS.nil))))))
  · rintro ⟨z, b6', ws, fl, qs⟩ ⟨hz, hB⟩ ih; dsimp only at hz hB ih ⊢
    refine GE_seq ?_;refine GE_seq ?_;refine GE_plain (.st 0 (.st 1 .nil)) rfl ?_;refine GT_st rfl rfl rfl rfl (V_load rfl rfl ag_3 (CellAt.item rfl)) ?_;refine GT_st rfl rfl rfl rfl (V_geq rfl rfl rfl) ?_;refine GT_nil ?_;refine GE_cond rfl (fun q1 => ?_) (fun q1 => ?_)
    · obtain ⟨i, rfl⟩ : ∃ i, z = i + 1 := ⟨z - 1, by omega⟩; rw [show (((i + 1 : Nat) : Int) - 1) = (i : Int) by omega]; have hin : i < ts.length := (by omega); have hB1 := hB.none hin hn; have hlw := hB.lw
      refine GE_skip ?_;refine GE_seq ?_;refine GE_block ?_;refine GE_seq ?_;refine GE_plain (.st 0 (.st 1 (.st 2 (.ld 3 [] .nil)))) rfl ?_;refine GT_st rfl rfl rfl rfl (V_load rfl rfl ag_3 (CellAt.item rfl)) ?_;refine GT_st rfl rfl rfl rfl (V_loadN (vs := [_, _]) rfl rfl ag_198 sz_198 rfl (NoneAt.cells hN (fun _ q => q))) ?_;refine GT_st rfl rfl rfl rfl (V_indexArr rfl rfl rfl Tryz.underlying199 sz_198 (kk := i) rfl (by omega)) ?_;refine GT_store (vs := [I (-1), I 0]) (l' := (ws.set i nW).flatMap eW) rfl rfl rfl rfl rfl rfl rfl sz_198 rfl rfl (wSet_len (by omega)) (wSet (x := nW) (by omega)) (GR_nil) ?_;refine GT_nil ?_;refine GE_seq ?_;refine GE_slots (L' := [(1, _), (2, _), (3, _), (4, _), (5, _), (6, _)]) ⟨rfl, rfl, rfl, rfl, rfl, rfl, trivial⟩ ?_;refine GE_plain (.st 0 (.st 1 (.ld 2 [] .nil))) rfl ?_;refine GT_st rfl rfl rfl rfl (V_load rfl rfl ag_195 (CellAt.item rfl)) ?_;refine GT_st rfl rfl rfl rfl (V_load rfl rfl ag_3 (CellAt.item rfl)) ?_;refine GT_call rfl rfl rfl rfl rfl rfl rfl rfl rn_140 (fun w hw => C_faces) (fun _ _ => GR_nil) (fun bf _ => ?_)
      refine GT_nil ?_;refine GE_block ?_;refine GE_range rfl rfl rn_203 (fun T l7 q r0 hr0 hT hlk w hw => ?_)
      refine (C_faces1 (i := i) (lp := l7) (b1 := bf.1) (b2 := bf.2) (J := (l7, .loop r0) :: (b6', blk [I i] 3) :: (b4, wsB (ws.set i nW)) :: (b5, flB fl) :: (b1, blk [ptr g 0] 195) :: []) (G := (q, .deferred (some [])) :: (b2, wsB w0L) :: (b3, flB f0L) :: iq qs)
        (Q := fun J' => ∃ ws2 fl2, BI ts.length i ws2 fl2 ∧ J' = (l7, .loop r0) :: (b6', blk [I i] 3) :: (b4, wsB ws2) :: (b5, flB fl2) :: (b1, blk [ptr g 0] 195) :: [])
        (by omega) hfo hto hts ha hgs hgr hpl ?_ ⟨_, _, hB1, rfl⟩ (hw.hs (C := cx Tryz.prog hm 0 0 _ none' fun _ _ => True) (HS.cons rfl (HS.cons rfl (HS.cons rfl (HS.cons rfl (HS.cons rfl (HS.cons rfl (HS.cons rfl (HS.cons rfl (HS.cons rfl (HS.cons rfl HS.last)))))))))))).mono (fun v w' ⟨J', ⟨ws2, fl2, hB2, hJ'⟩, hw'⟩ => ?_)
      · rintro k d J2 hk hd1 hd2 ⟨ws2, fl2, hB2, hJ⟩ G2; subst hJ; subst hr0
        have hlw2 := hB2.lw; have hlf2 := hB2.lf; have hkg : k < gs.length := (by omega); have hco := (hfo.2 _ (getD_memT hk)).cost
        refine yield_of inferInstance rfl rfl hT hlk rfl rfl hm ?_;refine GE_slots (L' := [(1, ptr b1 0), (4, ptr b4 0), (5, ptr b5 0), (6, ptr b6' 0), (25, .agg #[I k, I d])]) ⟨rfl, rfl, rfl, rfl, rfl, trivial⟩ ?_;refine GE_plain (.ld 0 [] (.ld 1 [] .nil)) rfl ?_;refine GT_alloc rfl rfl rfl rfl rfl zc_201 (fun _ => GR_nil) (fun b7 => ?_)
        refine GT_store (vs := [_, _]) (l' := [_, _]) rfl rfl rfl rfl rfl rfl rfl sz_201 rfl rfl (Nat.le_of_ble_eq_true rfl) rfl (GR_nil) ?_;refine GT_nil ?_;refine GE_beginRound rfl ?_;refine GE_block ?_;refine GE_seq ?_;refine GE_plain (.st 0 (.st 1 (.st 2 (.st 3 (.st 4 (.st 5 (.ld 6 [] (.ld 7 [] .nil)))))))) rfl ?_;refine GT_st rfl rfl rfl rfl (V_load rfl rfl ag_3 (CellAt.item rfl)) ?_;refine GT_st rfl rfl rfl rfl (V_field rfl rfl fo_201_1) ?_;refine GT_st rfl rfl rfl rfl (V_load rfl rfl ag_3 (CellAt.item rfl)) ?_;refine GT_st rfl rfl rfl rfl (V_add rfl rfl rfl (wrap_i64 (by omega))) ?_;refine GT_st rfl rfl rfl rfl (V_indexArr rfl rfl rfl Tryz.underlying199 sz_198 (kk := i + d) (by omega) (by omega)) ?_;refine GT_st rfl rfl rfl rfl (V_loadN (vs := [_, _]) rfl rfl ag_198 sz_198 rfl (CellsAt.row (l := ws2) (k := i + d) eW_len (by omega) (by omega))) ?_;refine GT_alloc rfl rfl rfl rfl rfl zc_198 (fun _ => GR_nil) (fun b8 => ?_)
        refine GT_store (vs := [_, _]) (l' := [_, _]) rfl rfl rfl rfl rfl rfl rfl sz_198 rfl rfl (Nat.le_of_ble_eq_true rfl) rfl (GR_nil) ?_;refine GT_nil ?_;refine GE_seq ?_;refine GE_seq ?_;refine GE_slots (L' := [(1, _), (4, _), (5, _), (6, _), (7, _), (8, _)]) ⟨rfl, rfl, rfl, rfl, rfl, rfl, trivial⟩ ?_;refine GE_plain (.st 0 (.st 1 (.st 2 .nil))) rfl ?_;refine GT_st rfl rfl rfl rfl (V_loadN (vs := [_, _]) rfl rfl ag_198 sz_198 rfl (CellsAt.item rfl)) ?_;refine GT_st rfl rfl rfl rfl (V_loadN (vs := [_, _]) rfl rfl ag_198 sz_198 rfl (NoneAt.cells hN (fun _ q => q))) ?_;refine GT_st rfl rfl rfl rfl (V_eqv (v' := .bool (decide (ws2.getD (i + d) default = nW))) (V_eqlArr2 rfl rfl rfl Tryz.underlying198 Tryz.underlying2 sz_2 eg_198) (congrArg Value.bool (eqNone _ _))) ?_;refine GT_nil ?_;refine GE_cond rfl (fun r1 => ?_) (fun r1 => ?_)
        · refine GE_exit rfl ?_
          first
          | (refine GE_leave none rfl (fun w hw => ⟨_, ⟨_, rfl, ⟨_, _, hB2.put (k := k) (x := ((ws2.getD (i + d) default).1 + (fs.getD k default).cost, (ws2.getD (i + d) default).2 + 1)) hin hn hd1 hd2 r1 hrb, rfl⟩, rfl⟩, ?_⟩); exact hw.hs (HS.cons rfl (HS.cons rfl (HS.cons rfl (HS.cons rfl (HS.cons rfl HS.last))))))
          | (refine GE_leave none rfl (fun w hw => ⟨_, ⟨_, rfl, ⟨_, _, hB2, rfl⟩, rfl⟩, ?_⟩); exact hw.hs (HS.cons rfl (HS.cons rfl (HS.cons rfl (HS.cons rfl (HS.cons rfl HS.last))))))
        · have hrb := hB2.rest hd1 hd2 r1 hco
          refine GE_skip ?_;refine GE_seq ?_;refine GE_drawn (.st 0 (.st 1 (.st 2 (.st 3 (.st 4 (.st 5 (.st 6 (.st 7 (.st 8 (.st 9 (.st 10 (.st 11 (.st 12 (.st 13 (.st 14 (.st 15 (.st 16 (.st 17 (.st 18 (.ld 19 [0, 1, 2, 3, 4, 5, 6, 7, 8, 9, 10, 11, 12, 13, 14, 15, 16, 17, 18] (.ld 20 [] .nil))))))))))))))))))))) [19, 20] (by decide +kernel) ?_;refine GT_st rfl rfl rfl rfl (V_indexArr (kk := 0) rfl rfl rfl Tryz.underlying198 sz_2 rfl (by omega)) ?_;refine GT_st rfl rfl rfl rfl (V_load rfl rfl ag_2 (CellAt.item rfl)) ?_;refine GT_st rfl rfl rfl rfl (V_load rfl rfl ag_195 (CellAt.item rfl)) ?_;refine GT_st rfl rfl rfl rfl (V_nilCheck rfl rfl) ?_;refine GT_st rfl rfl rfl rfl (V_field rfl rfl fo_207_0) ?_;refine GT_st rfl rfl rfl rfl (V_load rfl rfl ag_205 (CellAt.old (ha.cell rfl) (fun q => q))) ?_;refine GT_st rfl rfl rfl rfl (V_field rfl rfl fo_201_0) ?_;refine GT_st rfl rfl rfl rfl (V_load rfl rfl ag_3 (CellAt.item rfl)) ?_;refine GT_st rfl rfl rfl rfl (V_index rfl rfl rfl Tryz.underlying205 sz_302 (k := k) rfl hk (hgr.isSome hkg)) ?_;refine GT_st rfl rfl rfl rfl (V_load rfl rfl ag_302 (hgr.at0 (fun _ q => q) hkg rfl)) ?_;refine GT_st rfl rfl rfl rfl (V_nilCheck rfl rfl) ?_;refine GT_st rfl rfl rfl rfl (V_field rfl rfl fo_304_0) ?_;refine GT_st rfl rfl rfl rfl (V_field rfl rfl fo_77_7) ?_;refine GT_st rfl rfl rfl rfl (V_load rfl rfl ag_2 (CellAt.old ((hpl k hk).cell rfl) (fun q => q))) ?_;refine GT_st rfl rfl rfl rfl (V_add rfl rfl rfl (wrap_i64 (by omega))) ?_;refine GT_st rfl rfl rfl rfl (V_indexArr (kk := 1) rfl rfl rfl Tryz.underlying198 sz_2 rfl (by omega)) ?_;refine GT_st rfl rfl rfl rfl (V_load rfl rfl ag_2 (CellAt.item rfl)) ?_;refine GT_st rfl rfl rfl rfl (V_add rfl rfl rfl (wrap_i64 (by omega))) ?_
          refine GT_st rfl rfl rfl rfl (V_build (vs := [_, _]) rfl rfl zc_198 pl_198 sa_198 rfl) ?_
          refine GT_alloc rfl rfl rfl rfl rfl zc_198 (fun _ => GR_cons rfl rfl rfl rfl ((by first | exact V_indexArr (kk := 0) rfl rfl rfl Tryz.underlying198 sz_2 rfl (by omega) | exact V_indexArrA (kk := 0) rfl rfl rfl Tryz.underlying198 sz_2 rfl (by omega))) (GR_cons rfl rfl rfl rfl ((by first | exact V_load rfl rfl ag_2 (CellAt.item rfl) | exact V_load rfl rfl ag_2 (CellAt.old (ha.cell rfl) (fun q => q)))) (GR_cons rfl rfl rfl rfl ((by first | exact V_load rfl rfl ag_195 (CellAt.item rfl) | exact V_load rfl rfl ag_195 (CellAt.old (ha.cell rfl) (fun q => q)))) (GR_cons rfl rfl rfl rfl ((by first | exact V_nilCheck rfl rfl | exact V_nilCheck_func rfl rfl | exact V_nilCheck_yield rfl rfl | exact V_nilCheck_iface rfl rfl)) (GR_cons rfl rfl rfl rfl ((by first | exact V_field rfl rfl fo_207_0 | exact V_fieldA rfl rfl fo_207_0)) (GR_cons rfl rfl rfl rfl ((by first | exact V_load rfl rfl ag_205 (CellAt.item rfl) | exact V_load rfl rfl ag_205 (CellAt.old (ha.cell rfl) (fun q => q)))) (GR_cons rfl rfl rfl rfl ((by first | exact V_field rfl rfl fo_201_0 | exact V_fieldA rfl rfl fo_201_0)) (GR_cons rfl rfl rfl rfl ((by first | exact V_load rfl rfl ag_3 (CellAt.item rfl) | exact V_load rfl rfl ag_3 (CellAt.old (ha.cell rfl) (fun q => q)))) (GR_cons rfl rfl rfl rfl (V_index rfl rfl rfl Tryz.underlying205 sz_302 (k := k) rfl hk (hgr.isSome hkg)) (GR_cons rfl rfl rfl rfl (V_load rfl rfl ag_302 (hgr.at0 (fun _ q => q) hkg rfl)) (GR_cons rfl rfl rfl rfl ((by first | exact V_nilCheck rfl rfl | exact V_nilCheck_func rfl rfl | exact V_nilCheck_yield rfl rfl | exact V_nilCheck_iface rfl rfl)) (GR_cons rfl rfl rfl rfl ((by first | exact V_field rfl rfl fo_304_0 | exact V_fieldA rfl rfl fo_304_0)) (GR_cons rfl rfl rfl rfl ((by first | exact V_field rfl rfl fo_77_7 | exact V_fieldA rfl rfl fo_77_7)) (GR_cons rfl rfl rfl rfl (V_load rfl rfl ag_2 (CellAt.old ((hpl k hk).cell rfl) (fun q => q))) (GR_cons rfl rfl rfl rfl (V_add rfl rfl rfl (wrap_i64 (by omega))) (GR_cons rfl rfl rfl rfl ((by first | exact V_indexArr (kk := 1) rfl rfl rfl Tryz.underlying198 sz_2 rfl (by omega) | exact V_indexArrA (kk := 1) rfl rfl rfl Tryz.underlying198 sz_2 rfl (by omega))) (GR_cons rfl rfl rfl rfl ((by first | exact V_load rfl rfl ag_2 (CellAt.item rfl) | exact V_load rfl rfl ag_2 (CellAt.old (ha.cell rfl) (fun q => q)))) (GR_cons rfl rfl rfl rfl (V_add rfl rfl rfl (wrap_i64 (by omega))) (GR_cons rfl rfl rfl rfl (V_build (vs := [_, _]) rfl rfl zc_198 pl_198 sa_198 rfl) (GR_nil)))))))))))))))))))) (fun b9 => ?_)
          refine GT_store (vs := [_, _]) (l' := [_, _]) rfl rfl rfl rfl rfl rfl rfl sz_198 rfl rfl (Nat.le_of_ble_eq_true rfl) rfl (GR_nil) ?_;refine GT_nil ?_;refine GE_seq ?_;refine GE_slots (L' := [(4, _), (5, _), (6, _), (7, _), (9, _)]) ⟨rfl, rfl, rfl, rfl, rfl, trivial⟩ ?_;refine GE_drawn (.st 0 (.st 1 (.st 2 (.st 3 (.ld 4 [] .nil))))) [4] (by decide +kernel) ?_;refine GT_st rfl rfl rfl rfl (V_loadN (vs := [_, _]) rfl rfl ag_198 sz_198 rfl (CellsAt.item rfl)) ?_;refine GT_st rfl rfl rfl rfl (V_load rfl rfl ag_3 (CellAt.item rfl)) ?_;refine GT_st rfl rfl rfl rfl (V_indexArr rfl rfl rfl Tryz.underlying199 sz_198 (kk := i) rfl (by omega)) ?_;refine GT_st rfl rfl rfl rfl (V_loadN (vs := [_, _]) rfl rfl ag_198 sz_198 rfl (CellsAt.row (l := ws2) (k := i) eW_len (by omega) (by omega))) ?_;refine GT_call rfl rfl rfl rfl rfl rfl rfl rfl rn_141 (fun w hw => C_less (hN.sh hw)) (fun _ _ => GR_nil) (fun bl _ => ?_)
          refine GT_nil ?_;refine GE_condB rfl (fun h1 => ?_) (fun h1 => ?_)
          · refine GE_slots (L' := [(4, _), (5, _), (6, _), (7, _), (9, _)]) ⟨rfl, rfl, rfl, rfl, rfl, trivial⟩ ?_;refine GE_drawn (.st 0 (.st 1 (.st 2 (.st 3 (.st 4 (.ld 5 [1, 3] (.st 6 (.ld 7 [] .nil)))))))) [5, 7] (by decide +kernel) ?_;refine GT_st rfl rfl rfl rfl (V_load rfl rfl ag_3 (CellAt.item rfl)) ?_;refine GT_st rfl rfl rfl rfl (V_load rfl rfl ag_3 (CellAt.item rfl)) ?_;refine GT_st rfl rfl rfl rfl (V_loadN (vs := [_, _]) rfl rfl ag_198 sz_198 rfl (CellsAt.item rfl)) ?_;refine GT_st rfl rfl rfl rfl (V_loadN (vs := [_, _]) rfl rfl ag_201 sz_201 rfl (CellsAt.item rfl)) ?_;refine GT_st rfl rfl rfl rfl (V_indexArr rfl rfl rfl Tryz.underlying199 sz_198 (kk := i) rfl (by omega)) ?_;refine GT_store (vs := [_, _]) (l' := (ws2.set i ((ws2.getD (i + d) default).1 + (fs.getD k default).cost, (ws2.getD (i + d) default).2 + 1)).flatMap eW) rfl rfl rfl rfl rfl rfl rfl sz_198 rfl rfl (wSet_len (by omega)) (wSet (x := (_, _)) (by omega)) (GR_cons rfl rfl rfl rfl ((by first | exact V_load rfl rfl ag_3 (CellAt.item rfl) | exact V_load rfl rfl ag_3 (CellAt.old (ha.cell rfl) (fun q => q)))) (GR_cons rfl rfl rfl rfl ((by first | exact V_loadN (vs := [_, _]) rfl rfl ag_201 sz_201 rfl (CellsAt.item rfl) | exact V_loadN (vs := [_, _]) rfl rfl ag_201 sz_201 rfl (NoneAt.cells hN (fun _ q => q)))) (GR_nil))) ?_;refine GT_st rfl rfl rfl rfl (V_indexArr rfl rfl rfl Tryz.underlying202 sz_201 (kk := i) rfl (by omega)) ?_;refine GT_store (vs := [_, _]) (l' := (fl2.set i ((k : Int), (d : Int))).flatMap eW) rfl rfl rfl rfl rfl rfl rfl sz_201 rfl rfl (wSet_len (by omega)) (wSet (x := (_, _)) (by omega)) (GR_nil) ?_;refine GT_nil ?_;refine GE_inBlock ?_
            first
            | (refine GE_leave none rfl (fun w hw => ⟨_, ⟨_, rfl, ⟨_, _, hB2.put (k := k) (x := ((ws2.getD (i + d) default).1 + (fs.getD k default).cost, (ws2.getD (i + d) default).2 + 1)) hin hn hd1 hd2 r1 hrb, rfl⟩, rfl⟩, ?_⟩); exact hw.hs (HS.cons rfl (HS.cons rfl (HS.cons rfl (HS.cons rfl (HS.cons rfl HS.last))))))
            | (refine GE_leave none rfl (fun w hw => ⟨_, ⟨_, rfl, ⟨_, _, hB2, rfl⟩, rfl⟩, ?_⟩); exact hw.hs (HS.cons rfl (HS.cons rfl (HS.cons rfl (HS.cons rfl (HS.cons rfl HS.last))))))
          · refine GE_skip ?_;refine GE_inBlock ?_
            first
            | (refine GE_leave none rfl (fun w hw => ⟨_, ⟨_, rfl, ⟨_, _, hB2.put (k := k) (x := ((ws2.getD (i + d) default).1 + (fs.getD k default).cost, (ws2.getD (i + d) default).2 + 1)) hin hn hd1 hd2 r1 hrb, rfl⟩, rfl⟩, ?_⟩); exact hw.hs (HS.cons rfl (HS.cons rfl (HS.cons rfl (HS.cons rfl (HS.cons rfl HS.last))))))
            | (refine GE_leave none rfl (fun w hw => ⟨_, ⟨_, rfl, ⟨_, _, hB2, rfl⟩, rfl⟩, ?_⟩); exact hw.hs (HS.cons rfl (HS.cons rfl (HS.cons rfl (HS.cons rfl (HS.cons rfl HS.last))))))
      · subst hJ'; subst hr0
        refine ⟨_, (b6', blk [I i] 3) :: (b4, wsB ws2) :: (b5, flB fl2) :: (b1, blk [ptr g 0] 195) :: (b2, wsB w0L) :: (b3, flB f0L) :: iq qs, ?_, hw'.hs (C := cx Tryz.prog hm 0 0 _ none' fun _ _ => True) (HS.cons rfl (HS.cons rfl (HS.cons rfl (HS.cons rfl (HS.cons rfl (HS.cons rfl (HS.cons rfl (HS.cons rfl HS.last)))))))), ?_⟩
        · intro h; cases h
        refine GE_D (D' := dq (q :: qs)) ?_ rfl
        refine GE_inBlock ?_;refine GE_inBlock ?_;refine GE_seq ?_;refine GE_seq ?_;refine GE_plain (.st 0 .nil) rfl ?_;refine GT_st rfl rfl rfl rfl (V_load rfl rfl ag_3 (CellAt.item rfl)) ?_;refine GT_nil ?_;refine GE_slots (L' := [(1, _), (2, _), (3, _), (4, _), (5, _), (65, _)]) ⟨rfl, rfl, rfl, rfl, rfl, rfl, trivial⟩ ?_;refine GE_plain (.ld 0 [] (.ld 1 [] .nil)) rfl ?_;refine GT_alloc rfl rfl rfl rfl rfl zc_3 (fun _ => GR_nil) (fun b6 => ?_)
        refine GT_store (vs := [_]) (l' := [_]) rfl rfl rfl rfl rfl rfl rfl sz_3 rfl rfl (Nat.le_of_ble_eq_true rfl) rfl (GR_nil) ?_;refine GT_nil ?_;refine GE_plain (.st 0 (.st 1 (.ld 2 [] .nil))) rfl ?_;refine GT_st rfl rfl rfl rfl (V_load rfl rfl ag_3 (CellAt.item rfl)) ?_;refine GT_st rfl rfl rfl rfl (V_sub rfl rfl rfl (wrap_i64 (by omega))) ?_;refine GT_store (vs := [_]) (l' := [_]) rfl rfl rfl rfl rfl rfl rfl sz_3 rfl rfl (Nat.le_of_ble_eq_true rfl) rfl (GR_nil) ?_;refine GT_nil ?_
        exact GE_to (ih (i, b6, ws2, fl2, q :: qs) ⟨by dsimp only; omega, hB2⟩ (by dsimp only; omega)) ⟨rfl, rfl, rfl, rfl, rfl, rfl, trivial⟩ (HS.cons rfl (HS.cons rfl (HS.cons rfl (HS.cons rfl (HS.cons rfl (HS.cons rfl HS.last))))))
    · obtain rfl : z = 0 := (by omega); have hlw := hB.lw; have hlf := hB.lf
      refine GE_exit rfl ?_;refine GE_seq ?_;refine GE_slots (L' := [(2, _), (3, _), (4, _), (5, _)]) ⟨rfl, rfl, rfl, rfl, trivial⟩ ?_;refine GE_drawn (.st 0 (.st 1 (.ld 2 [1] (.ld 3 [] .nil)))) [2, 3] (by decide +kernel) ?_;refine GT_st rfl rfl rfl rfl (V_loadN (vs := ws.flatMap eW) rfl rfl ag_199 sz_199 (by rw [flat_len, hlw]) (CellsAt.item drop_all)) ?_;refine GT_st rfl rfl rfl rfl (V_loadN (vs := fl.flatMap eW) rfl rfl ag_202 sz_202 (by rw [flat_len, hlf]) (CellsAt.item drop_all)) ?_;refine GT_store (vs := ws.flatMap eW) (l' := ws.flatMap eW) rfl rfl rfl rfl rfl rfl rfl sz_199 (by rw [flat_len, hlw]) all_one (by rw [flat_len, hlw]; exact Nat.le_refl _) (setsAll (by rw [flat_len, hlw]; rfl)) (GR_cons rfl rfl rfl rfl (V_loadN (vs := fl.flatMap eW) rfl rfl ag_202 sz_202 (by rw [flat_len, hlf]) (CellsAt.item drop_all)) (GR_nil)) ?_;refine GT_store (vs := fl.flatMap eW) (l' := fl.flatMap eW) rfl rfl rfl rfl rfl rfl rfl sz_202 (by rw [flat_len, hlf]) all_one (by rw [flat_len, hlf]; exact Nat.le_refl _) (setsAll (by rw [flat_len, hlf]; rfl)) (GR_nil) ?_;refine GT_nil ?_;refine GE_retq Tryz.func84 ⟨_, _, ⟨_, rfl, fun w m => run_loadVar_agg (vs := ws.flatMap eW) ag_199 sz_199 (by rw [flat_len, hlw]) (fun j v hj => CellsAt.item drop_all j v hj w m)⟩, ⟨_, rfl, fun w m => run_loadVar_agg (vs := fl.flatMap eW) ag_202 sz_202 (by rw [flat_len, hlf]) (fun j v hj => CellsAt.item drop_all j v hj w m)⟩, rfl⟩ (fun w hw => ?_)
      exact ⟨(ws, fl), hB, rfl, hw.nil⟩
  · exact ⟨Nat.le_refl _, BI.init hn⟩
end
end Go.Proofs.YtpbflnfcgcldkaaGreatDoor.Side
/- The best plan of an album, walked. -/
namespace Go.Proofs.YtpbflnfcgcldkaaGreatDoor.Side
open Go.Sx Go.Proofs Go.RowKit
section
variable {w w0 : World} {A A2 : Option Addr} {c c2 : Nat} {fs : List Fmt} {ts : List Trk}
set_option maxRecDepth 20000 in
set_option maxHeartbeats 1000000 in
theorem C_Album (hN : NoneAt w) (hf : RdL w 8 eFmt A fs) (h : RdL w 3 eTrk A2 ts) (hfo : FmtsOk fs) (hto : TrksOk ts) (h1 : 1 ≤ ts.length) :
    Con Tryz.prog 35 [.slice A fs.length c, .slice A2 ts.length c2] w (fun y : (Option Addr × Nat × Nat) × Int × Int => (y.2.2 = 0 ∧ 1 ≤ y.1.2.1 ∧ y.1.2.1 ≤ ts.length) ∨ y.2.2 = 15) (fun y => .tuple #[.slice y.1.1 y.1.2.1 y.1.2.2, I y.2.1, I y.2.2]) (fun _ => []) := by
  have hn := hto.1
  refine Ret_of (vs := [_, _]) hm none' Tryz.func35 rfl Tryz.ntmps35 rfl ?_
  dsimp only [slotsOf]
  refine GE_seq ?_;refine GE_plain (.st 0 (.st 1 (.st 2 .nil))) rfl ?_;refine GT_st rfl rfl rfl rfl (V_assign rfl rfl) ?_;refine GT_st rfl rfl rfl rfl (V_assign rfl rfl) ?_;refine GT_st rfl rfl rfl rfl (V_assign rfl rfl) ?_;refine GT_nil ?_;refine GE_seq ?_;refine GE_plain (.st 0 (.st 1 (.ld 2 [] (.st 3 (.st 4 (.st 5 (.st 6 (.st 7 .nil)))))))) rfl ?_;refine GT_st rfl rfl rfl rfl (V_move rfl rfl) ?_;refine GT_st rfl rfl rfl rfl (V_move rfl rfl) ?_;refine GT_call rfl rfl rfl rfl rfl rfl rfl rfl rn_83 (fun w hw => C_openAll (hf.sh hw) (h.sh hw) hfo hto) (fun _ _ => GR_nil) (fun yo hyo => ?_)
  refine GT_st rfl rfl rfl rfl (V_move rfl rfl) ?_;refine GT_st rfl rfl rfl rfl (V_extract rfl rfl rfl) ?_;refine GT_st rfl rfl rfl rfl (V_extract rfl rfl rfl) ?_;refine GT_st rfl rfl rfl rfl (V_assign rfl rfl) ?_;refine GT_st rfl rfl rfl rfl (V_assign rfl rfl) ?_;refine GT_nil ?_;refine GE_seq ?_;refine GE_seq ?_;refine GE_slots (L' := [(7, _), (8, _)]) ⟨rfl, rfl, trivial⟩ ?_;refine GE_plain (.st 0 (.st 1 .nil)) rfl ?_;refine GT_st rfl rfl rfl rfl (V_move rfl rfl) ?_;refine GT_st rfl rfl rfl rfl (V_isF (V_neq rfl rfl rfl) (fun q => q rfl)) ?_;refine GT_nil ?_;refine GE_cond_f rfl ?_;refine GE_skip ?_;refine GE_seq ?_;refine GE_plain (.st 0 (.ld 1 [] (.st 2 (.st 3 (.st 4 (.ld 5 [] (.ld 6 [] (.ld 7 [] (.ld 8 [] .nil))))))))) rfl ?_;refine GT_st rfl rfl rfl rfl (V_move rfl rfl) ?_;refine GT_call rfl rfl rfl rfl rfl rfl rfl rfl rn_84 (fun w hw => C_best (c2 := c2) (hN.sh hw) (AlbAt.of (hw.hs (C := cx Tryz.prog hm 0 0 _ none' fun _ _ => True) (HS.cons rfl (HS.chunk (HS.chunk HS.nil)))) hyo.1 hyo.2) hfo hto (h.sh hw)) (fun _ _ => GR_nil) (fun yb hB => ?_)
  obtain ⟨ws, fl⟩ := yb; dsimp only at hB ⊢; have hlw := hB.lw; have hlf := hB.lf
  refine GT_st rfl rfl rfl rfl (V_move rfl rfl) ?_;refine GT_st rfl rfl rfl rfl (V_extract rfl rfl rfl) ?_;refine GT_st rfl rfl rfl rfl (V_extract rfl rfl rfl) ?_;refine GT_alloc rfl rfl rfl rfl rfl zc_199 (fun _ => GR_nil) (fun b9 => ?_)
  refine GT_alloc rfl rfl rfl rfl rfl zc_202 (fun _ => GR_nil) (fun b10 => ?_)
  refine GT_store (vs := ws.flatMap eW) (l' := ws.flatMap eW) rfl rfl rfl rfl rfl rfl rfl sz_199 (by rw [flat_len, hlw]) all_one (by rw [flat_len, hlw]; exact Nat.le_refl _) (setsAll (by rw [flat_len, hlw]; rfl)) (GR_nil) ?_;refine GT_store (vs := fl.flatMap eW) (l' := fl.flatMap eW) rfl rfl rfl rfl rfl rfl rfl sz_202 (by rw [flat_len, hlf]) all_one (by rw [flat_len, hlf]; exact Nat.le_refl _) (setsAll (by rw [flat_len, hlf]; rfl)) (GR_nil) ?_;refine GT_nil ?_;refine GE_seq ?_;refine GE_seq ?_;refine GE_slots (L' := [(7, _), (9, _), (10, _)]) ⟨rfl, rfl, rfl, trivial⟩ ?_;refine GE_plain (.st 0 (.st 1 (.st 2 (.st 3 .nil)))) rfl ?_;refine GT_st rfl rfl rfl rfl (V_indexArr (kk := 0) rfl rfl rfl Tryz.underlying199 sz_198 rfl (by omega)) ?_;refine GT_st rfl rfl rfl rfl (V_loadN (vs := [_, _]) rfl rfl ag_198 sz_198 rfl (CellsAt.row (l := ws) (k := 0) eW_len (by omega) (by omega))) ?_;refine GT_st rfl rfl rfl rfl (V_loadN (vs := [_, _]) rfl rfl ag_198 sz_198 rfl (NoneAt.cells hN (fun _ q => q))) ?_;refine GT_st rfl rfl rfl rfl (V_eqv (v' := .bool (decide (ws.getD 0 default = nW))) (V_eqlArr2 rfl rfl rfl Tryz.underlying198 Tryz.underlying2 sz_2 eg_198) (congrArg Value.bool (eqNone _ _))) ?_;refine GT_nil ?_;refine GE_cond rfl (fun q1 => ?_) (fun q1 => ?_)
  · refine GE_seq ?_;refine GE_slots (L' := []) trivial ?_;refine GE_plain (.st 0 (.st 1 (.st 2 .nil))) rfl ?_;refine GT_st rfl rfl rfl rfl (V_assign rfl rfl) ?_;refine GT_st rfl rfl rfl rfl (V_assign rfl rfl) ?_;refine GT_st rfl rfl rfl rfl (V_assign rfl rfl) ?_;refine GT_nil ?_;refine GE_ret Tryz.func35 ⟨_, _, _, rfl, rfl, rfl, rfl⟩ (fun w hw => ?_)
    exact ⟨((none, 0, 0), 0, 15), .inr rfl, rfl, hw.nil⟩
  · refine GE_skip ?_;refine GE_seq ?_;refine GE_slots (L' := [(7, _), (9, _), (10, _)]) ⟨rfl, rfl, rfl, trivial⟩ ?_;refine GE_plain (.st 0 .nil) rfl ?_;refine GT_st rfl rfl rfl rfl (V_assign rfl rfl) ?_;refine GT_nil ?_;refine GE_seq ?_;refine GE_seq ?_;refine GE_plain (.st 0 .nil) rfl ?_;refine GT_st rfl rfl rfl rfl (V_assign rfl rfl) ?_;refine GT_nil ?_;refine GE_block ?_;refine GE_to (GE_loop (ι := Nat × List Wth × (Option Addr × Nat × Items)) (fun z => ts.length - z.1) (fun z => [(7, ptr yo.1 0), (9, ptr b9 0), (10, ptr b10 0), (11, .slice z.2.2.1 z.2.1.length z.2.2.2.1), (12, I z.1)]) (fun z => (yo.1, blk [.slice yo.2.2.1 yo.2.1.length yo.2.2.2.1, I ts.length] 207) :: (b9, wsB ws) :: (b10, flB fl) :: z.2.2.2.2) (fun z => z.1 ≤ ts.length ∧ z.2.1.length ≤ z.1 ∧ (1 ≤ z.1 → 1 ≤ z.2.1.length) ∧ ws.getD z.1 default ≠ nW ∧ Own 2 201 eW z.2.1 (.slice z.2.2.1 z.2.1.length z.2.2.2.1) z.2.2.2.2) ?_ (0, [], (none, 0, [])) ?_) ⟨rfl, rfl, rfl, rfl, rfl, trivial⟩ (HS.cons rfl (HS.cons rfl (HS.cons rfl HS.nil)))
    · rintro ⟨j, out, y⟩ ⟨hj, ho1, ho2, hnw, hO⟩ ih; dsimp only at hj ho1 ho2 hnw hO ih ⊢
      refine GE_seq ?_;refine GE_seq ?_;refine GE_plain (.st 0 (.st 1 (.st 2 (.st 3 (.st 4 (.st 5 .nil)))))) rfl ?_;refine GT_st rfl rfl rfl rfl (V_move rfl rfl) ?_;refine GT_st rfl rfl rfl rfl (V_move rfl rfl) ?_;refine GT_st rfl rfl rfl rfl (V_nilCheck rfl rfl) ?_;refine GT_st rfl rfl rfl rfl (V_field rfl rfl fo_207_1) ?_;refine GT_st rfl rfl rfl rfl (V_load rfl rfl ag_3 (CellAt.item rfl)) ?_;refine GT_st rfl rfl rfl rfl (V_lss rfl rfl rfl) ?_;refine GT_nil ?_;refine GE_cond rfl (fun q2 => ?_) (fun q2 => ?_)
      · have hjl : j < ts.length := (by omega); obtain ⟨d, hd1, hd2, hd3, hd4⟩ := (hB.fce j (Nat.zero_le _) hjl).resolve_left hnw
        refine GE_skip ?_;refine GE_seq ?_;refine GE_block ?_;refine GE_slots (L' := [(7, _), (9, _), (10, _), (11, _), (12, _)]) ⟨rfl, rfl, rfl, rfl, rfl, trivial⟩ ?_;refine GE_plain (.st 0 (.st 1 (.st 2 (.st 3 (.ld 4 [] (.ld 5 [] (.ld 6 [] .nil))))))) rfl ?_;refine GT_st rfl rfl rfl rfl (V_move rfl rfl) ?_;refine GT_st rfl rfl rfl rfl (V_move rfl rfl) ?_;refine GT_st rfl rfl rfl rfl (V_indexArr rfl rfl rfl Tryz.underlying202 sz_201 (kk := j) rfl (by omega)) ?_;refine GT_st rfl rfl rfl rfl (V_loadN (vs := [_, _]) rfl rfl ag_201 sz_201 rfl (CellsAt.row (l := fl) (k := j) eW_len (by omega) (by omega))) ?_;refine GT_buildSlice (z := [_, _]) rfl rfl rfl rfl rfl Tryz.underlying97 zc_201 sz_201 (by decide) rfl rfl (fun _ => GR_nil) (fun b47 => ?_)
        refine GT_append (enc := eW) (l := out) (m := [fl.getD j default]) rfl rfl rfl rfl rfl rfl rfl hO (fun w m => RdL.own' m eW_len) Tryz.underlying97 zc_201 sz_201 ⟨rfl, by decide⟩ by_201 ⟨by simp only [List.length_singleton]; omega, by simp only [List.length_singleton]; omega⟩ eW_len eW_one (fun _ _ _ _ => GR_nil) (fun A3 c3 I3 hO3 => ?_)
        refine GT_ldv rfl rfl rfl rfl rfl (V_assign rfl rfl) (GR_nil) ?_;refine GT_nil ?_;refine GE_inBlock ?_;refine GE_slots (L' := [(7, _), (9, _), (10, _), (11, _), (12, _)]) ⟨rfl, rfl, rfl, rfl, rfl, trivial⟩ ?_;refine GE_plain (.st 0 (.st 1 (.st 2 (.st 3 (.st 4 (.st 5 (.ld 6 [] .nil))))))) rfl ?_;refine GT_st rfl rfl rfl rfl (V_move rfl rfl) ?_;refine GT_st rfl rfl rfl rfl (V_move rfl rfl) ?_;refine GT_st rfl rfl rfl rfl (V_indexArr rfl rfl rfl Tryz.underlying202 sz_201 (kk := j) rfl (by omega)) ?_;refine GT_st rfl rfl rfl rfl (V_field rfl rfl fo_201_1) ?_;refine GT_st rfl rfl rfl rfl (V_load rfl rfl ag_3 (CellAt.row (l := fl) (k := j) (j := 1) eW_len (by omega) rfl (by omega))) ?_;refine GT_st rfl rfl rfl rfl (V_add rfl rfl rfl (wrap_i64 (by rw [hd1]; omega))) ?_;refine GT_ldv rfl rfl rfl rfl rfl (V_assign rfl rfl) (GR_nil) ?_;refine GT_nil ?_
        exact GE_to (ih (j + d, out ++ [fl.getD j default], (A3, c3, I3)) ⟨by dsimp only; omega, by dsimp only; rw [List.length_append, List.length_singleton]; omega, fun _ => by dsimp only; rw [List.length_append, List.length_singleton]; omega, hd4, hO3⟩ (by dsimp only; omega)) ⟨rfl, rfl, rfl, rfl, lookI rfl (by dsimp only; rw [hd1]; omega), trivial⟩ (HS.cons rfl (HS.cons rfl (HS.cons rfl HS.last)))
      · obtain rfl : j = ts.length := (by omega)
        refine GE_exit rfl ?_;refine GE_seq ?_;refine GE_slots (L' := [(9, _), (11, _)]) ⟨rfl, rfl, trivial⟩ ?_;refine GE_drawn (.st 0 (.st 1 (.st 2 (.st 3 (.st 4 (.st 5 (.st 6 .nil))))))) [] (by decide +kernel) ?_;refine GT_st rfl rfl rfl rfl (V_move rfl rfl) ?_;refine GT_st rfl rfl rfl rfl (V_indexArr (kk := 0) rfl rfl rfl Tryz.underlying199 sz_198 rfl (by omega)) ?_;refine GT_st rfl rfl rfl rfl (V_indexArr (kk := 0) rfl rfl rfl Tryz.underlying198 sz_2 rfl (by omega)) ?_;refine GT_st rfl rfl rfl rfl (V_load rfl rfl ag_2 (CellAt.row (l := ws) (k := 0) (j := 0) eW_len (by omega) rfl (by omega))) ?_;refine GT_st rfl rfl rfl rfl (V_assign rfl rfl) ?_;refine GT_st rfl rfl rfl rfl (V_assign rfl rfl) ?_;refine GT_st rfl rfl rfl rfl (V_assign rfl rfl) ?_;refine GT_nil ?_;refine GE_ret Tryz.func35 ⟨_, _, _, rfl, rfl, rfl, rfl⟩ (fun w hw => ?_)
        exact ⟨((y.1, out.length, y.2.1), _, 0), .inl ⟨rfl, ho2 h1, ho1⟩, rfl, hw.nil⟩
    · exact ⟨Nat.zero_le _, Nat.le_refl _, fun h => absurd h (by decide), q1, Own.nil⟩
end
end Go.Proofs.YtpbflnfcgcldkaaGreatDoor.Side
/- The law TopLabels, walked. -/
namespace Go.Proofs.YtpbflnfcgcldkaaGreatDoor.Lab
open Go.Sx Go.Proofs Go.RowKit
open Slv (rep rep_len rep_cop rep_at rep_pl rep_snoc each_bd want_lst place_bd sum_none sum_some C_RunU C_Cost0 C_Gang GrowsAt cd full SumR)
open Side (eN eN_len eN_one getD_memT Fmt Trk eFmt eTrk FmtsOk TrksOk NoneAt)
section
variable {w : World} {A A2 : Option Addr} {c c2 : Nat} {fs : List Fmt} {ts : List Trk} {x3 x4 x5 : Int}
set_option maxRecDepth 20000 in
set_option maxHeartbeats 1000000 in
theorem C_TopLabels (hG : GrowsAt w) (hN : NoneAt w) (hf : RdL w 8 eFmt A fs) (h : RdL w 3 eTrk A2 ts) (h3 : 0 ≤ x3 ∧ x3 ≤ 65535) (h4 : 0 ≤ x4 ∧ x4 ≤ 255) (h5 : 0 ≤ x5 ∧ x5 ≤ 65535) :
    Con0 Tryz.prog 6 [.slice A fs.length c, .slice A2 ts.length c2, .int .u16 x3, .int .u8 x4, .int .u16 x5] w (.bool true) := by
  have ht1 : 0 ≤ x4.tmod 64 := Int.tmod_nonneg _ h4.1
  have ht2 : x4.tmod 64 < 64 := Int.tmod_lt_of_pos _ (by decide)
  refine Ret_of (vs := [_, _, _, _, _]) hm none' Tryz.func6 rfl Tryz.ntmps6 rfl ?_
  dsimp only [slotsOf]
  refine GE_seq ?_;refine GE_plain (.st 0 .nil) rfl ?_;refine GT_st rfl rfl rfl rfl (V_assign rfl rfl) ?_;refine GT_nil ?_;refine GE_seq ?_;refine GE_seq ?_;refine GE_plain (.st 0 (.st 1 (.st 2 (.st 3 (.st 4 (.st 5 (.st 6 (.st 7 (.st 8 (.st 9 (.st 10 (.st 11 (.st 12 (.st 13 (.st 14 (.st 15 (.ld 16 [] (.st 17 (.st 18 .nil))))))))))))))))))) rfl ?_;refine GT_st rfl rfl rfl rfl (V_move rfl rfl) ?_;refine GT_st rfl rfl rfl rfl (V_len rfl Tryz.underlying95 rfl) ?_;refine GT_st rfl rfl rfl rfl (V_gtr rfl rfl rfl) ?_;refine GT_st rfl rfl rfl rfl (V_move rfl rfl) ?_;refine GT_split (d := 32) rfl (fun q1 => ?_) (fun q1 => ?_)
  · refine GT_skip rfl rfl rfl rfl rfl (by decide) rfl rfl ?_;refine GT_skip rfl rfl rfl rfl rfl (by decide) rfl rfl ?_;refine GT_skip rfl rfl rfl rfl rfl (by decide) rfl rfl ?_;refine GT_st rfl rfl rfl rfl (V_pick_t rfl rfl rfl) ?_;refine GT_st rfl rfl rfl rfl (V_move rfl rfl) ?_;refine GT_skip rfl rfl rfl rfl rfl (by decide) rfl rfl ?_;refine GT_skip rfl rfl rfl rfl rfl (by decide) rfl rfl ?_;refine GT_skip rfl rfl rfl rfl rfl (by decide) rfl rfl ?_;refine GT_st rfl rfl rfl rfl (V_pick_t rfl rfl rfl) ?_;refine GT_st rfl rfl rfl rfl (V_move rfl rfl) ?_;refine GT_skip rfl rfl rfl rfl rfl (by decide) rfl rfl ?_;refine GT_skip rfl rfl rfl rfl rfl (by decide) rfl rfl ?_;refine GT_skip_ld rfl rfl rfl rfl rfl (by decide) rfl rfl rfl (GR_nil) ?_;refine GT_skip rfl rfl rfl rfl rfl (by decide) rfl rfl ?_;refine GT_st rfl rfl rfl rfl (V_pick_t rfl rfl rfl) ?_;refine GT_nil ?_;refine GE_cond_t rfl ?_;refine GE_seq ?_;refine GE_slots (L' := []) trivial ?_;refine GE_plain (.ld 0 [] (.st 1 .nil)) rfl ?_;refine GT_call0 rfl rfl rfl rfl rfl rfl rfl rfl rn_30 (fun w hw => Wks.C_works10 (hG.sh hw)) (GR_nil) ?_;refine GT_st rfl rfl rfl rfl (V_assign rfl rfl) ?_;refine GT_nil ?_;refine GE_ret Tryz.func6 rfl (fun w hw => ⟨?_, hw.nil⟩)
    rfl
  · refine GT_st_g rfl rfl rfl rfl rfl rfl rfl (V_move rfl rfl) ?_;refine GT_st_g rfl rfl rfl rfl rfl rfl rfl (V_len rfl Tryz.underlying95 rfl) ?_;refine GT_st_g rfl rfl rfl rfl rfl rfl rfl (V_eql rfl rfl rfl) ?_;refine GT_st rfl rfl rfl rfl (V_pick_f rfl rfl rfl) ?_;refine GT_st rfl rfl rfl rfl (V_move rfl rfl) ?_;refine GT_split (d := 37) rfl (fun q2 => ?_) (fun q2 => ?_)
    · refine GT_skip rfl rfl rfl rfl rfl (by decide) rfl rfl ?_;refine GT_skip rfl rfl rfl rfl rfl (by decide) rfl rfl ?_;refine GT_skip rfl rfl rfl rfl rfl (by decide) rfl rfl ?_;refine GT_st rfl rfl rfl rfl (V_pick_t rfl rfl rfl) ?_;refine GT_st rfl rfl rfl rfl (V_move rfl rfl) ?_;refine GT_skip rfl rfl rfl rfl rfl (by decide) rfl rfl ?_;refine GT_skip rfl rfl rfl rfl rfl (by decide) rfl rfl ?_;refine GT_skip_ld rfl rfl rfl rfl rfl (by decide) rfl rfl rfl (GR_nil) ?_;refine GT_skip rfl rfl rfl rfl rfl (by decide) rfl rfl ?_;refine GT_st rfl rfl rfl rfl (V_pick_t rfl rfl rfl) ?_;refine GT_nil ?_;refine GE_cond_t rfl ?_;refine GE_seq ?_;refine GE_slots (L' := []) trivial ?_;refine GE_plain (.ld 0 [] (.st 1 .nil)) rfl ?_;refine GT_call0 rfl rfl rfl rfl rfl rfl rfl rfl rn_30 (fun w hw => Wks.C_works10 (hG.sh hw)) (GR_nil) ?_;refine GT_st rfl rfl rfl rfl (V_assign rfl rfl) ?_;refine GT_nil ?_;refine GE_ret Tryz.func6 rfl (fun w hw => ⟨?_, hw.nil⟩)
      rfl
    · refine GT_st_g rfl rfl rfl rfl rfl rfl rfl (V_move rfl rfl) ?_;refine GT_st_g rfl rfl rfl rfl rfl rfl rfl (V_len rfl Tryz.underlying94 rfl) ?_;refine GT_st_g rfl rfl rfl rfl rfl rfl rfl (V_gtr rfl rfl rfl) ?_;refine GT_st rfl rfl rfl rfl (V_pick_f rfl rfl rfl) ?_;refine GT_st rfl rfl rfl rfl (V_move rfl rfl) ?_;refine GT_split (d := 42) rfl (fun q3 => ?_) (fun q3 => ?_)
      · refine GT_skip rfl rfl rfl rfl rfl (by decide) rfl rfl ?_;refine GT_skip rfl rfl rfl rfl rfl (by decide) rfl rfl ?_;refine GT_skip_ld rfl rfl rfl rfl rfl (by decide) rfl rfl rfl (GR_nil) ?_;refine GT_skip rfl rfl rfl rfl rfl (by decide) rfl rfl ?_;refine GT_st rfl rfl rfl rfl (V_pick_t rfl rfl rfl) ?_;refine GT_nil ?_;refine GE_cond_t rfl ?_;refine GE_seq ?_;refine GE_slots (L' := []) trivial ?_;refine GE_plain (.ld 0 [] (.st 1 .nil)) rfl ?_;refine GT_call0 rfl rfl rfl rfl rfl rfl rfl rfl rn_30 (fun w hw => Wks.C_works10 (hG.sh hw)) (GR_nil) ?_;refine GT_st rfl rfl rfl rfl (V_assign rfl rfl) ?_;refine GT_nil ?_;refine GE_ret Tryz.func6 rfl (fun w hw => ⟨?_, hw.nil⟩)
        rfl
      · refine GT_st_g rfl rfl rfl rfl rfl rfl rfl (V_move rfl rfl) ?_;refine GT_st_g rfl rfl rfl rfl rfl rfl rfl (V_move rfl rfl) ?_;refine GT_call_g rfl rfl rfl rfl rfl rfl rfl rfl rfl rfl rfl rn_34 (fun w hw => Side.C_refFormats (hf.sh hw) (h.sh hw)) (fun _ _ => GR_nil) (fun e0 he0 => ?_)
        refine GT_st_g rfl rfl rfl rfl rfl rfl rfl (V_neq rfl rfl rfl) ?_;refine GT_st rfl rfl rfl rfl (V_pick_f rfl rfl rfl) ?_;refine GT_nil ?_;refine GE_condNot rfl (fun q4 => ?_) (fun q4 => ?_)
        · refine GE_seq ?_;refine GE_slots (L' := []) trivial ?_;refine GE_plain (.ld 0 [] (.st 1 .nil)) rfl ?_;refine GT_call0 rfl rfl rfl rfl rfl rfl rfl rfl rn_30 (fun w hw => Wks.C_works10 (hG.sh hw)) (GR_nil) ?_;refine GT_st rfl rfl rfl rfl (V_assign rfl rfl) ?_;refine GT_nil ?_;refine GE_ret Tryz.func6 rfl (fun w hw => ⟨?_, hw.nil⟩)
          rfl
        · obtain ⟨hfo, hto⟩ := he0 (by omega)
          refine GE_skip ?_;refine GE_seq ?_;refine GE_slots (L' := [(0, _), (1, _), (2, _), (3, _), (4, _)]) ⟨rfl, rfl, rfl, rfl, rfl, trivial⟩ ?_;refine GE_plain (.st 0 (.st 1 (.ld 2 [] (.st 3 (.st 4 (.st 5 (.st 6 (.st 7 (.st 8 (.st 9 .nil)))))))))) rfl ?_;refine GT_st rfl rfl rfl rfl (V_move rfl rfl) ?_;refine GT_st rfl rfl rfl rfl (V_move rfl rfl) ?_;refine GT_call rfl rfl rfl rfl rfl rfl rfl rfl rn_35 (fun w hw => Side.C_Album (hN.sh hw) (hf.sh hw) (h.sh hw) hfo hto (by omega)) (fun _ _ => GR_nil) (fun ya hya => ?_)
          obtain ⟨⟨Ap, m, cp⟩, co, ea⟩ := ya; dsimp only at hya ⊢
          refine GT_st rfl rfl rfl rfl (V_move rfl rfl) ?_;refine GT_st rfl rfl rfl rfl (V_extract rfl rfl rfl) ?_;refine GT_st rfl rfl rfl rfl (V_extract rfl rfl rfl) ?_;refine GT_st rfl rfl rfl rfl (V_extract rfl rfl rfl) ?_;refine GT_st rfl rfl rfl rfl (V_assign rfl rfl) ?_;refine GT_st rfl rfl rfl rfl (V_assign rfl rfl) ?_;refine GT_st rfl rfl rfl rfl (V_assign rfl rfl) ?_;refine GT_nil ?_;refine GE_seq ?_;refine GE_seq ?_;refine GE_slots (L' := [(2, _), (3, _), (4, _), (11, _), (13, _)]) ⟨rfl, rfl, rfl, rfl, rfl, trivial⟩ ?_;refine GE_plain (.st 0 (.st 1 .nil)) rfl ?_;refine GT_st rfl rfl rfl rfl (V_move rfl rfl) ?_;refine GT_st rfl rfl rfl rfl (V_neq rfl rfl rfl) ?_;refine GT_nil ?_;refine GE_condNot rfl (fun q5 => ?_) (fun q5 => ?_)
          · have hea : ea = 15 := (by rcases hya with q | q; exact absurd q.1 q5; exact q)
            refine GE_seq ?_;refine GE_slots (L' := [(13, _)]) ⟨rfl, trivial⟩ ?_;refine GE_plain (.st 0 (.st 1 (.st 2 (.ld 3 [] (.st 4 (.st 5 .nil)))))) rfl ?_;refine GT_st rfl rfl rfl rfl (V_move rfl rfl) ?_;refine GT_st rfl rfl rfl rfl (V_isT (V_eql rfl rfl rfl) hea) ?_;refine GT_st rfl rfl rfl rfl (V_move rfl rfl) ?_;refine GT_call0_g rfl rfl rfl rfl rfl rfl rfl rfl rfl rfl rfl rn_30 (fun w hw => Wks.C_works10 (hG.sh hw)) (GR_nil) ?_;refine GT_st rfl rfl rfl rfl (V_pick_t rfl rfl rfl) ?_;refine GT_st rfl rfl rfl rfl (V_assign rfl rfl) ?_;refine GT_nil ?_;refine GE_ret Tryz.func6 rfl (fun w hw => ⟨?_, hw.nil⟩)
            rfl
          · obtain ⟨_, hm1, hm2⟩ : ea = 0 ∧ 1 ≤ m ∧ m ≤ ts.length := (by rcases hya with q | q; exact q; omega); have hm8 : m ≤ 8 := (by omega)
            refine GE_skip ?_;refine GE_seq ?_;refine GE_plain (.st 0 (.st 1 (.st 2 (.st 3 (.st 4 (.st 5 (.st 6 (.st 7 (.st 8 .nil))))))))) rfl ?_;refine GT_st rfl rfl rfl rfl (V_move rfl rfl) ?_;refine GT_st rfl rfl rfl rfl (V_convII rfl rfl (by rw [Tryz.underlying78]; rfl) Tryz.underlying2 (wrap_i64 (by omega))) ?_;refine GT_st rfl rfl rfl rfl (V_add rfl rfl rfl (wrap_i64 (by omega))) ?_;refine GT_st rfl rfl rfl rfl (V_move rfl rfl) ?_;refine GT_st rfl rfl rfl rfl (V_convII rfl rfl (by rw [Tryz.underlying5]; rfl) Tryz.underlying2 (wrap_i64 (by omega))) ?_;refine GT_st rfl rfl rfl rfl (V_rem rfl rfl rfl (by omega)) ?_;refine GT_st rfl rfl rfl rfl (V_add rfl rfl rfl (wrap_i64 (by omega))) ?_;refine GT_st rfl rfl rfl rfl (V_assign rfl rfl) ?_;refine GT_st rfl rfl rfl rfl (V_assign rfl rfl) ?_;refine GT_nil ?_;refine GE_seq ?_;refine GE_seq ?_;refine GE_slots (L' := [(4, _), (11, _), (14, _), (15, _)]) ⟨rfl, rfl, rfl, rfl, trivial⟩ ?_;refine GE_plain (.st 0 (.st 1 (.st 2 (.st 3 (.st 4 (.st 5 (.st 6 (.st 7 .nil)))))))) rfl ?_;refine GT_st rfl rfl rfl rfl (V_move rfl rfl) ?_;refine GT_st rfl rfl rfl rfl (V_len rfl Tryz.underlying97 rfl) ?_;refine GT_st rfl rfl rfl rfl (V_isF (V_eql rfl rfl rfl) (by omega)) ?_;refine GT_st rfl rfl rfl rfl (V_move rfl rfl) ?_;refine GT_st_g rfl rfl rfl rfl rfl rfl rfl (V_move rfl rfl) ?_;refine GT_st_g rfl rfl rfl rfl rfl rfl rfl (V_len rfl Tryz.underlying97 rfl) ?_;refine GT_st_g rfl rfl rfl rfl rfl rfl rfl (V_isF (V_gtr rfl rfl rfl) (by omega)) ?_;refine GT_st rfl rfl rfl rfl (V_pick_f rfl rfl rfl) ?_;refine GT_nil ?_;refine GE_cond_f rfl ?_;refine GE_skip ?_;refine GE_seq ?_;refine GE_slots (L' := [(4, _), (11, _), (14, _), (15, _)]) ⟨rfl, rfl, rfl, rfl, trivial⟩ ?_;refine GE_plain (.st 0 .nil) rfl ?_
            refine GT_st rfl rfl rfl rfl (V_assign rfl rfl) ?_;refine GT_nil ?_;refine GE_seq ?_;refine GE_plain (.st 0 .nil) rfl ?_;refine GT_st rfl rfl rfl rfl (V_assign rfl rfl) ?_;refine GT_nil ?_;refine GE_seq ?_;refine GE_seq ?_;refine GE_plain (.st 0 .nil) rfl ?_;refine GT_st rfl rfl rfl rfl (V_assign rfl rfl) ?_;refine GT_nil ?_;refine GE_block ?_;refine GE_to (GE_loop (ι := Nat × (Option Addr × Nat × Items) × (Option Addr × Nat × Items)) (fun z => m - z.1) (fun z => [(4, .int .u16 x5), (11, .slice Ap m cp), (14, I (1 + x3)), (15, I (1 + x4.tmod 64)), (16, .slice z.2.1.1 (rep z.1 (1 + x3)).length z.2.1.2.1), (17, .slice z.2.2.1 (rep z.1 (1 + x3)).length z.2.2.2.1), (18, I z.1)]) (fun z => z.2.1.2.2 ++ (z.2.2.2.2 ++ [])) (fun z => z.1 ≤ m ∧ Own 1 2 eN (rep z.1 (1 + x3)) (.slice z.2.1.1 (rep z.1 (1 + x3)).length z.2.1.2.1) z.2.1.2.2 ∧ Own 1 3 eN (rep z.1 0) (.slice z.2.2.1 (rep z.1 (1 + x3)).length z.2.2.2.1) z.2.2.2.2) ?_ (0, (none, 0, []), (none, 0, [])) ?_) ⟨rfl, rfl, rfl, rfl, rfl, rfl, rfl, trivial⟩ HS.nil
            · rintro ⟨j, y, u⟩ ⟨hj, hO, hU⟩ ih; dsimp only at hj hO hU ih ⊢
              refine GE_seq ?_;refine GE_seq ?_;refine GE_plain (.st 0 (.st 1 (.st 2 (.st 3 .nil)))) rfl ?_;refine GT_st rfl rfl rfl rfl (V_move rfl rfl) ?_;refine GT_st rfl rfl rfl rfl (V_move rfl rfl) ?_;refine GT_st rfl rfl rfl rfl (V_len rfl Tryz.underlying97 rfl) ?_;refine GT_st rfl rfl rfl rfl (V_lss rfl rfl rfl) ?_;refine GT_nil ?_;refine GE_cond rfl (fun q6 => ?_) (fun q6 => ?_)
              · have hjm : j < m := (by omega)
                refine GE_skip ?_;refine GE_seq ?_;refine GE_block ?_;refine GE_seq ?_;refine GE_slots (L' := [(4, _), (11, _), (14, _), (15, _), (16, _), (17, _), (18, _)]) ⟨rfl, rfl, rfl, rfl, rfl, rfl, rfl, trivial⟩ ?_;refine GE_plain (.st 0 (.st 1 (.ld 2 [] (.ld 3 [] (.ld 4 [] .nil))))) rfl ?_;refine GT_st rfl rfl rfl rfl (V_move rfl rfl) ?_;refine GT_st rfl rfl rfl rfl (V_move rfl rfl) ?_;refine GT_buildSlice (z := [_]) rfl rfl rfl rfl rfl Tryz.underlying43 zc_2 sz_2 (by decide) rfl rfl (fun _ => GR_nil) (fun b86 => ?_)
                refine GT_append (enc := eN) (l := rep j (1 + x3)) (m := [1 + x3]) rfl rfl rfl rfl rfl rfl rfl hO (fun w m => RdL.own' m eN_len) Tryz.underlying43 zc_2 sz_2 ⟨rfl, by decide⟩ by_2 ⟨by rw [rep_len]; simp only [List.length_singleton]; omega, by rw [rep_len]; simp only [List.length_singleton]; omega⟩ eN_len eN_one (fun _ _ _ _ => GR_nil) (fun A3 c3 I3 hO3 => ?_)
                rw [rep_snoc] at hO3 ⊢
                refine GT_ldv rfl rfl rfl rfl rfl (V_assign rfl rfl) (GR_nil) ?_;refine GT_nil ?_;refine GE_slots (L' := [(4, _), (11, _), (14, _), (15, _), (16, _), (17, _), (18, _)]) ⟨rfl, rfl, rfl, rfl, rfl, rfl, rfl, trivial⟩ ?_;refine GE_plain (.st 0 (.ld 1 [] (.ld 2 [] (.ld 3 [] .nil)))) rfl ?_;refine GT_st rfl rfl rfl rfl (V_move rfl rfl) ?_;refine GT_buildSlice (z := [_]) rfl rfl rfl rfl rfl Tryz.underlying38 zc_3 sz_3 (by decide) rfl rfl (fun _ => GR_nil) (fun b89 => ?_)
                refine GT_append (enc := eN) (l := rep j 0) (m := [0]) rfl rfl rfl rfl rfl rfl rfl hU (fun w m => RdL.own' m eN_len) Tryz.underlying38 zc_3 sz_3 ⟨rfl, by decide⟩ by_3 ⟨by rw [rep_len]; simp only [List.length_singleton]; omega, by rw [rep_len]; simp only [List.length_singleton]; omega⟩ eN_len eN_one (fun _ _ _ _ => GR_nil) (fun A4 c4 I4 hU3 => ?_)
                rw [show List.length (rep j 0 ++ [(0 : Int)]) = (rep (j + 1) (1 + x3)).length from (by rw [rep_snoc, rep_len, rep_len])] at hU3 ⊢; rw [rep_snoc] at hU3
                refine GT_ldv rfl rfl rfl rfl rfl (V_assign rfl rfl) (GR_nil) ?_;refine GT_nil ?_;refine GE_inBlock ?_;refine GE_plain (.st 0 (.st 1 (.ld 2 [] .nil))) rfl ?_;refine GT_st rfl rfl rfl rfl (V_move rfl rfl) ?_;refine GT_st rfl rfl rfl rfl (V_add rfl rfl rfl (wrap_i64 (by omega))) ?_;refine GT_ldv rfl rfl rfl rfl rfl (V_assign rfl rfl) (GR_nil) ?_;refine GT_nil ?_
                exact GE_to (ih (j + 1, (A3, c3, I3), (A4, c4, I4)) ⟨by dsimp only; omega, hO3, hU3⟩ (by dsimp only; omega)) ⟨rfl, rfl, rfl, rfl, rfl, rfl, rfl, trivial⟩ (HS.chunk (HS.chunk HS.nil))
              · obtain rfl : j = m := (by omega); have hrl := rep_len j (1 + x3); have hcop := rep_cop hm8 (n := 1 + x3) (by omega)
                refine GE_exit rfl ?_;refine GE_seq ?_;refine GE_slots (L' := [(4, _), (11, _), (14, _), (15, _), (16, _), (17, _)]) ⟨rfl, rfl, rfl, rfl, rfl, rfl, trivial⟩ ?_;refine GE_plain (.st 0 (.st 1 (.ld 2 [] (.st 3 (.st 4 (.st 5 (.st 6 (.st 7 (.st 8 (.st 9 .nil)))))))))) rfl ?_;refine GT_st rfl rfl rfl rfl (V_move rfl rfl) ?_;refine GT_st rfl rfl rfl rfl (V_move rfl rfl) ?_;refine GT_call rfl rfl rfl rfl rfl rfl rfl rfl rn_36 (fun w hw => C_RunU (l := rep j (1 + x3)) (hO.rd eN_len (hw.hs (C := cx Tryz.prog hm 0 0 _ none' fun _ _ => True) HS.last)) hcop ⟨by omega, by omega⟩ (by omega)) (fun _ _ => GR_nil) (fun yr hyr => ?_)
                rw [hrl] at hyr
                refine GT_st rfl rfl rfl rfl (V_move rfl rfl) ?_;refine GT_st rfl rfl rfl rfl (V_extract rfl rfl rfl) ?_;refine GT_st rfl rfl rfl rfl (V_extract rfl rfl rfl) ?_;refine GT_st rfl rfl rfl rfl (V_extract rfl rfl rfl) ?_;refine GT_st rfl rfl rfl rfl (V_assign rfl rfl) ?_;refine GT_st rfl rfl rfl rfl (V_assign rfl rfl) ?_;refine GT_st rfl rfl rfl rfl (V_assign rfl rfl) ?_;refine GT_nil ?_;refine GE_seq ?_;refine GE_slots (L' := [(4, _), (11, _), (13, _), (14, _), (15, _), (16, _), (17, _), (19, _), (20, _)]) ⟨rfl, rfl, rfl, rfl, rfl, rfl, rfl, rfl, rfl, trivial⟩ ?_;refine GE_plain (.st 0 (.st 1 (.st 2 (.st 3 (.st 4 (.ld 5 [] (.st 6 (.st 7 (.st 8 (.st 9 (.st 10 .nil))))))))))) rfl ?_;refine GT_st rfl rfl rfl rfl (V_move rfl rfl) ?_;refine GT_st rfl rfl rfl rfl (V_move rfl rfl) ?_;refine GT_st rfl rfl rfl rfl (V_move rfl rfl) ?_;refine GT_st rfl rfl rfl rfl (V_convII rfl rfl (by rw [Tryz.underlying78]; rfl) Tryz.underlying2 (wrap_i64 (by omega))) ?_;refine GT_st rfl rfl rfl rfl (V_move rfl rfl) ?_;refine GT_call rfl rfl rfl rfl rfl rfl rfl rfl rn_37 (fun w hw => C_Cost0 (l := rep j (1 + x3)) (hO.rd eN_len (hw.hs (C := cx Tryz.prog hm 0 0 _ none' fun _ _ => True) HS.last)) hcop (by omega) ⟨by omega, by omega⟩ ⟨by omega, by omega⟩ (by rw [hrl]; exact hU.rd eN_len (hw.hs (C := cx Tryz.prog hm 0 0 _ none' fun _ _ => True) HS.last))) (fun _ _ => GR_nil) (fun yc hyc => ?_)
                refine GT_st rfl rfl rfl rfl (V_move rfl rfl) ?_;refine GT_st rfl rfl rfl rfl (V_extract rfl rfl rfl) ?_;refine GT_st rfl rfl rfl rfl (V_extract rfl rfl rfl) ?_;refine GT_st rfl rfl rfl rfl (V_assign rfl rfl) ?_;refine GT_st rfl rfl rfl rfl (V_assign rfl rfl) ?_;refine GT_nil ?_;refine GE_seq ?_;refine GE_slots (L' := [(4, _), (11, _), (13, _), (14, _), (15, _), (16, _), (19, _), (20, _), (21, _), (22, _)]) ⟨rfl, rfl, rfl, rfl, rfl, rfl, rfl, rfl, rfl, rfl, trivial⟩ ?_;refine GE_plain (.st 0 (.st 1 (.st 2 (.st 3 (.ld 4 [] (.st 5 (.st 6 (.st 7 (.st 8 (.st 9 (.st 10 (.st 11 .nil)))))))))))) rfl ?_;refine GT_st rfl rfl rfl rfl (V_move rfl rfl) ?_;refine GT_st rfl rfl rfl rfl (V_move rfl rfl) ?_;refine GT_st rfl rfl rfl rfl (V_move rfl rfl) ?_;refine GT_st rfl rfl rfl rfl (V_convII rfl rfl (by rw [Tryz.underlying78]; rfl) Tryz.underlying2 (wrap_i64 (by omega))) ?_;refine GT_call rfl rfl rfl rfl rfl rfl rfl rfl rn_38 (fun w hw => C_Gang (l := rep j (1 + x3)) (hO.rd eN_len (hw.hs (C := cx Tryz.prog hm 0 0 _ none' fun _ _ => True) HS.last)) hcop (by omega) ⟨by omega, by omega⟩ ⟨by omega, by omega⟩) (fun _ _ => GR_nil) (fun yg hyg => ?_)
                refine GT_st rfl rfl rfl rfl (V_move rfl rfl) ?_;refine GT_st rfl rfl rfl rfl (V_extract rfl rfl rfl) ?_;refine GT_st rfl rfl rfl rfl (V_extract rfl rfl rfl) ?_;refine GT_st rfl rfl rfl rfl (V_extract rfl rfl rfl) ?_;refine GT_st rfl rfl rfl rfl (V_assign rfl rfl) ?_;refine GT_st rfl rfl rfl rfl (V_assign rfl rfl) ?_;refine GT_st rfl rfl rfl rfl (V_assign rfl rfl) ?_;refine GT_nil ?_;refine GE_seq ?_;refine GE_seq ?_;refine GE_slots (L' := [(4, _), (11, _), (13, _), (14, _), (15, _), (19, _), (20, _), (21, _), (22, _), (24, _), (25, _)]) ⟨rfl, rfl, rfl, rfl, rfl, rfl, rfl, rfl, rfl, rfl, rfl, trivial⟩ ?_;refine GE_plain (.st 0 (.st 1 .nil)) rfl ?_;refine GT_st rfl rfl rfl rfl (V_move rfl rfl) ?_;refine GT_st rfl rfl rfl rfl (V_isF (V_neq rfl rfl rfl) (fun q => q rfl)) ?_;refine GT_nil ?_;refine GE_cond_f rfl ?_;refine GE_skip ?_;refine GE_seq ?_;refine GE_seq ?_;refine GE_plain (.st 0 (.st 1 (.st 2 (.st 3 .nil)))) rfl ?_;refine GT_st rfl rfl rfl rfl (V_move rfl rfl) ?_;refine GT_st rfl rfl rfl rfl (V_len rfl Tryz.underlying97 rfl) ?_;refine GT_st rfl rfl rfl rfl (V_move rfl rfl) ?_;refine GT_st rfl rfl rfl rfl (V_gtr rfl rfl rfl) ?_;refine GT_nil ?_;refine GE_cond rfl (fun q7 => ?_) (fun q7 => ?_)
                · have hcn : yc = (0, false) := sum_none hyc (by omega) (by rw [hrl]; omega); have hr14 : yr.2.2.2 = 14 := (by rcases hyr with q | q; exact q.2; omega)
                  refine GE_seq ?_;refine GE_slots (L' := [(13, _), (22, _)]) ⟨rfl, rfl, trivial⟩ ?_;refine GE_plain (.st 0 (.st 1 (.st 2 (.st 3 (.st 4 (.st 5 (.st 6 (.ld 7 [] (.st 8 (.st 9 .nil)))))))))) rfl ?_;refine GT_st rfl rfl rfl rfl (V_move rfl rfl) ?_;refine GT_st rfl rfl rfl rfl (V_isT (V_eql rfl rfl rfl) hr14) ?_;refine GT_st rfl rfl rfl rfl (V_move rfl rfl) ?_;refine GT_st_g rfl rfl rfl rfl rfl rfl rfl (V_move rfl rfl) ?_;refine GT_st_g rfl rfl rfl rfl rfl rfl rfl (V_isT (V_eql rfl rfl rfl) (by rw [hcn]; rfl)) ?_;refine GT_st rfl rfl rfl rfl (V_pick_t rfl rfl rfl) ?_;refine GT_st rfl rfl rfl rfl (V_move rfl rfl) ?_;refine GT_call0_g rfl rfl rfl rfl rfl rfl rfl rfl rfl rfl rfl rn_30 (fun w hw => Wks.C_works10 (hG.sh hw)) (GR_nil) ?_;refine GT_st rfl rfl rfl rfl (V_pick_t rfl rfl rfl) ?_;refine GT_st rfl rfl rfl rfl (V_assign rfl rfl) ?_;refine GT_nil ?_;refine GE_ret Tryz.func6 rfl (fun w hw => ⟨?_, hw.nil⟩)
                  rfl
                · obtain ⟨hjk, hr0, hLst, hrn, hOr⟩ := hyr.resolve_left (by omega); have hwant := want_lst (n := 1 + x3) (k := 1 + x4.tmod 64) (m := j) ⟨by omega, by omega⟩ ⟨by omega, by omega⟩ (by omega) (by omega); have hsh := hLst.uniq hwant; have hcs := sum_some hyc (by omega) (by rw [hrl]; omega) hLst h5.1; have hpb := place_bd (n := 1 + x3) (k := 1 + x4.tmod 64) (m := j) ⟨by omega, by omega⟩ ⟨by omega, by omega⟩ (by omega) (by omega) hsh; obtain ⟨⟨hea1, hea2⟩, hea3⟩ := each_bd (k := 1 + x4.tmod 64) (m := j) ⟨by omega, by omega⟩ (by omega) (by omega); have hlo := hLst.lo; have hhi := hLst.hi; rw [rep_pl] at hOr; have hbest : yg.2 ≤ yr.1 + x5 := (hyg.2 rfl rfl rfl _ (Slv.cost_some (by rw [hrl]; omega) (by omega) hLst) (by omega)).2; have hcv : (if yc.2 = true then yc.1 else 0) = yr.1 + x5 := (by rw [hcs]; exact if_pos rfl)
                  refine GE_skip ?_;refine GE_seq ?_;refine GE_slots (L' := [(4, _), (11, _), (13, _), (14, _), (15, _), (19, _), (20, _), (21, _), (22, _), (24, _)]) ⟨rfl, rfl, rfl, rfl, rfl, rfl, rfl, rfl, rfl, rfl, trivial⟩ ?_;refine GE_plain (.st 0 (.st 1 (.st 2 (.st 3 (.st 4 .nil))))) rfl ?_;refine GT_st rfl rfl rfl rfl (V_move rfl rfl) ?_;refine GT_st rfl rfl rfl rfl (V_move rfl rfl) ?_;refine GT_st rfl rfl rfl rfl (V_len rfl Tryz.underlying97 rfl) ?_;refine GT_st rfl rfl rfl rfl (V_quo rfl rfl rfl (by omega) ((show IntKind.i64.wrap ((1 + x4.tmod 64).tdiv j) = (1 + x4.tmod 64) / j from by rw [Int.tdiv_eq_ediv_of_nonneg (by omega)]; exact wrap_i64 (by omega)))) ?_;refine GT_st rfl rfl rfl rfl (V_assign rfl rfl) ?_;refine GT_nil ?_;refine GE_seq ?_;refine GE_slots (L' := [(4, _), (11, _), (13, _), (14, _), (19, _), (20, _), (21, _), (22, _), (24, _), (26, _)]) ⟨rfl, rfl, rfl, rfl, rfl, rfl, rfl, rfl, rfl, rfl, trivial⟩ ?_;refine GE_plain (.st 0 (.st 1 (.st 2 (.st 3 (.st 4 (.st 5 (.st 6 .nil))))))) rfl ?_;refine GT_st rfl rfl rfl rfl (V_move rfl rfl) ?_;refine GT_st rfl rfl rfl rfl (V_move rfl rfl) ?_;refine GT_st rfl rfl rfl rfl (V_add rfl rfl rfl (wrap_i64 (by omega))) ?_;refine GT_st rfl rfl rfl rfl (V_sub rfl rfl rfl (wrap_i64 (by omega))) ?_;refine GT_st rfl rfl rfl rfl (V_move rfl rfl) ?_;refine GT_st rfl rfl rfl rfl (V_quo rfl rfl rfl (by omega) ((show IntKind.i64.wrap ((1 + x3 + (1 + x4.tmod 64) / j - 1).tdiv ((1 + x4.tmod 64) / j)) = cd (1 + x3) ((1 + x4.tmod 64) / j) from by rw [Int.tdiv_eq_ediv_of_nonneg (by omega)]; exact wrap_i64 (by have := hsh; unfold Slv.cd at this; omega)))) ?_;refine GT_st rfl rfl rfl rfl (V_assign rfl rfl) ?_;refine GT_nil ?_;refine GE_seq ?_;refine GE_seq ?_
                  refine GE_slots (L' := [(4, _), (11, _), (13, _), (14, _), (19, _), (20, _), (21, _), (22, _), (24, _), (26, _), (27, _)]) ⟨rfl, rfl, rfl, rfl, rfl, rfl, rfl, rfl, rfl, rfl, rfl, trivial⟩ ?_;refine GE_plain (.st 0 (.st 1 (.st 2 (.st 3 (.st 4 (.st 5 (.st 6 (.st 7 (.st 8 (.st 9 (.st 10 (.st 11 (.st 12 (.st 13 (.st 14 (.st 15 (.st 16 (.st 17 (.st 18 (.st 19 (.st 20 (.st 21 (.st 22 (.st 23 (.st 24 (.st 25 (.st 26 (.st 27 (.st 28 (.st 29 (.st 30 .nil))))))))))))))))))))))))))))))) rfl ?_;refine GT_st rfl rfl rfl rfl (V_move rfl rfl) ?_;refine GT_st rfl rfl rfl rfl (V_isF (V_neq rfl rfl rfl) (fun q => q hr0)) ?_;refine GT_st rfl rfl rfl rfl (V_move rfl rfl) ?_;refine GT_st_g rfl rfl rfl rfl rfl rfl rfl (V_move rfl rfl) ?_;refine GT_st_g rfl rfl rfl rfl rfl rfl rfl (V_isF (V_neq rfl rfl rfl) (by rw [hcs]; exact fun q => q rfl)) ?_;refine GT_st rfl rfl rfl rfl (V_pick_f rfl rfl rfl) ?_;refine GT_st rfl rfl rfl rfl (V_move rfl rfl) ?_;refine GT_st_g rfl rfl rfl rfl rfl rfl rfl (V_move rfl rfl) ?_;refine GT_st_g rfl rfl rfl rfl rfl rfl rfl (V_move rfl rfl) ?_;refine GT_st_g rfl rfl rfl rfl rfl rfl rfl (V_isF (V_neq rfl rfl rfl) (fun q => q hsh)) ?_;refine GT_st rfl rfl rfl rfl (V_pick_f rfl rfl rfl) ?_;refine GT_st rfl rfl rfl rfl (V_move rfl rfl) ?_;refine GT_st_g rfl rfl rfl rfl rfl rfl rfl (V_move rfl rfl) ?_;refine GT_st_g rfl rfl rfl rfl rfl rfl rfl (V_move rfl rfl) ?_;refine GT_st_g rfl rfl rfl rfl rfl rfl rfl (V_move rfl rfl) ?_;refine GT_st_g rfl rfl rfl rfl rfl rfl rfl (V_convII rfl rfl (by rw [Tryz.underlying78]; rfl) Tryz.underlying2 (wrap_i64 (by omega))) ?_;refine GT_st_g rfl rfl rfl rfl rfl rfl rfl (V_add rfl rfl rfl (wrap_i64 (by omega))) ?_;refine GT_st_g rfl rfl rfl rfl rfl rfl rfl (V_isF (V_neq rfl rfl rfl) (fun q => q (by rw [hcv, hsh]))) ?_
                  refine GT_st rfl rfl rfl rfl (V_pick_f rfl rfl rfl) ?_;refine GT_st rfl rfl rfl rfl (V_move rfl rfl) ?_;refine GT_st_g rfl rfl rfl rfl rfl rfl rfl (V_move rfl rfl) ?_;refine GT_st_g rfl rfl rfl rfl rfl rfl rfl (V_move rfl rfl) ?_;refine GT_st_g rfl rfl rfl rfl rfl rfl rfl (V_isF (V_gtr rfl rfl rfl) (by rw [hcv]; omega)) ?_;refine GT_st rfl rfl rfl rfl (V_pick_f rfl rfl rfl) ?_;refine GT_st rfl rfl rfl rfl (V_move rfl rfl) ?_;refine GT_st_g rfl rfl rfl rfl rfl rfl rfl (V_move rfl rfl) ?_;refine GT_st_g rfl rfl rfl rfl rfl rfl rfl (V_len rfl Tryz.underlying43 rfl) ?_;refine GT_st_g rfl rfl rfl rfl rfl rfl rfl (V_move rfl rfl) ?_;refine GT_st_g rfl rfl rfl rfl rfl rfl rfl (V_len rfl Tryz.underlying97 rfl) ?_;refine GT_st_g rfl rfl rfl rfl rfl rfl rfl (V_isF (V_neq rfl rfl rfl) (fun q => q (congrArg Int.ofNat hrn))) ?_;refine GT_st rfl rfl rfl rfl (V_pick_f rfl rfl rfl) ?_;refine GT_nil ?_;refine GE_cond_f rfl ?_;refine GE_skip ?_;refine GE_seq ?_;refine GE_seq ?_;refine GE_slots (L' := [(14, _), (19, _), (20, _), (26, _)]) ⟨rfl, rfl, rfl, rfl, trivial⟩ ?_;refine GE_plain (.st 0 .nil) rfl ?_;refine GT_st rfl rfl rfl rfl (V_assign rfl rfl) ?_;refine GT_nil ?_;refine GE_block ?_;refine GE_to (GE_loop (ι := Nat) (fun i => j - i) (fun i => [(14, I (1 + x3)), (19, I yr.1), (20, .slice yr.2.1.1 yr.2.1.2.1 yr.2.1.2.2), (26, I ((1 + x4.tmod 64) / j)), (28, I i)]) (fun i => yr.2.2.1) (fun i => i ≤ j) ?_ 0 ?_) ⟨rfl, rfl, rfl, rfl, rfl, trivial⟩ HS.last
                  · rintro i hi ih2
                    refine GE_seq ?_;refine GE_seq ?_;refine GE_plain (.st 0 (.st 1 (.st 2 (.st 3 .nil)))) rfl ?_;refine GT_st rfl rfl rfl rfl (V_move rfl rfl) ?_;refine GT_st rfl rfl rfl rfl (V_move rfl rfl) ?_;refine GT_st rfl rfl rfl rfl (V_len rfl Tryz.underlying43 rfl) ?_;refine GT_st rfl rfl rfl rfl (V_lss rfl rfl rfl) ?_;refine GT_nil ?_;refine GE_cond rfl (fun q8 => ?_) (fun q8 => ?_)
                    · have hij : i < j := (by omega); have hil : i < (rep j (cd (1 + x3) yr.1)).length := (by rw [rep_len]; exact hij); have hval : (rep j (cd (1 + x3) yr.1)).getD i default = cd (1 + x3) yr.1 := rep_at hij
                      refine GE_skip ?_;refine GE_seq ?_;refine GE_block ?_;refine GE_seq ?_;refine GE_slots (L' := [(14, _), (19, _), (20, _), (26, _), (28, _)]) ⟨rfl, rfl, rfl, rfl, rfl, trivial⟩ ?_;refine GE_plain (.st 0 (.st 1 (.st 2 (.st 3 (.st 4 (.st 5 (.st 6 (.st 7 (.st 8 (.st 9 (.st 10 (.st 11 (.st 12 (.st 13 (.st 14 (.st 15 (.st 16 (.st 17 (.st 18 (.st 19 (.st 20 (.st 21 (.st 22 .nil))))))))))))))))))))))) rfl ?_;refine GT_st rfl rfl rfl rfl (V_move rfl rfl) ?_;refine GT_st rfl rfl rfl rfl (V_move rfl rfl) ?_;refine GT_st rfl rfl rfl rfl (V_index rfl rfl rfl Tryz.underlying43 sz_2 (k := i) rfl (by omega) (hOr.isSome (k := i) hil)) ?_;refine GT_st rfl rfl rfl rfl (V_load rfl rfl ag_2 (CellAt.own0 (k := i) hOr eN_len hil (by rw [hval]; rfl))) ?_;refine GT_st rfl rfl rfl rfl (V_isF (V_lss rfl rfl rfl) (by omega)) ?_;refine GT_st rfl rfl rfl rfl (V_move rfl rfl) ?_;refine GT_st_g rfl rfl rfl rfl rfl rfl rfl (V_move rfl rfl) ?_;refine GT_st_g rfl rfl rfl rfl rfl rfl rfl (V_move rfl rfl) ?_;refine GT_st_g rfl rfl rfl rfl rfl rfl rfl (V_index rfl rfl rfl Tryz.underlying43 sz_2 (k := i) rfl (by omega) (hOr.isSome (k := i) hil)) ?_;refine GT_st_g rfl rfl rfl rfl rfl rfl rfl (V_load rfl rfl ag_2 (CellAt.own0 (k := i) hOr eN_len hil (by rw [hval]; rfl))) ?_;refine GT_st_g rfl rfl rfl rfl rfl rfl rfl (V_move rfl rfl) ?_;refine GT_st_g rfl rfl rfl rfl rfl rfl rfl (V_isF (V_gtr rfl rfl rfl) (by omega)) ?_;refine GT_st rfl rfl rfl rfl (V_pick_f rfl rfl rfl) ?_;refine GT_st rfl rfl rfl rfl (V_move rfl rfl) ?_;refine GT_st_g rfl rfl rfl rfl rfl rfl rfl (V_move rfl rfl) ?_;refine GT_st_g rfl rfl rfl rfl rfl rfl rfl (V_move rfl rfl) ?_;refine GT_st_g rfl rfl rfl rfl rfl rfl rfl (V_index rfl rfl rfl Tryz.underlying43 sz_2 (k := i) rfl (by omega) (hOr.isSome (k := i) hil)) ?_
                      refine GT_st_g rfl rfl rfl rfl rfl rfl rfl (V_load rfl rfl ag_2 (CellAt.own0 (k := i) hOr eN_len hil (by rw [hval]; rfl))) ?_;refine GT_st_g rfl rfl rfl rfl rfl rfl rfl (V_move rfl rfl) ?_;refine GT_st_g rfl rfl rfl rfl rfl rfl rfl (V_mul rfl rfl rfl (wrap_i64 (by omega))) ?_;refine GT_st_g rfl rfl rfl rfl rfl rfl rfl (V_move rfl rfl) ?_;refine GT_st_g rfl rfl rfl rfl rfl rfl rfl (V_isF (V_lss rfl rfl rfl) (by omega)) ?_;refine GT_st rfl rfl rfl rfl (V_pick_f rfl rfl rfl) ?_;refine GT_nil ?_;refine GE_cond_f rfl ?_;refine GE_skip ?_;refine GE_inBlock ?_;refine GE_slots (L' := [(14, _), (19, _), (20, _), (26, _), (28, _), (184, _), (185, _), (186, _), (187, _), (188, _), (189, _), (192, _), (193, _), (194, _), (195, _), (196, _), (197, _), (198, _), (199, _)]) ⟨rfl, rfl, rfl, rfl, rfl, rfl, rfl, rfl, rfl, rfl, rfl, rfl, rfl, rfl, rfl, rfl, rfl, rfl, rfl, trivial⟩ ?_;refine GE_plain (.st 0 (.st 1 (.ld 2 [] .nil))) rfl ?_;refine GT_st rfl rfl rfl rfl (V_move rfl rfl) ?_;refine GT_st rfl rfl rfl rfl (V_add rfl rfl rfl (wrap_i64 (by omega))) ?_;refine GT_ldv rfl rfl rfl rfl rfl (V_assign rfl rfl) (GR_nil) ?_;refine GT_nil ?_
                      exact GE_to (ih2 (i + 1) (by omega) (by omega)) ⟨rfl, rfl, rfl, rfl, rfl, trivial⟩ HS.last
                    · refine GE_exit rfl ?_;refine GE_seq ?_;refine GE_slots (L' := []) trivial ?_;refine GE_plain (.ld 0 [] (.st 1 .nil)) rfl ?_;refine GT_call0 rfl rfl rfl rfl rfl rfl rfl rfl rn_30 (fun w hw => Wks.C_works10 (hG.sh hw)) (GR_nil) ?_;refine GT_st rfl rfl rfl rfl (V_assign rfl rfl) ?_;refine GT_nil ?_;refine GE_ret Tryz.func6 rfl (fun w hw => ⟨?_, hw.nil⟩)
                      rfl
                  · exact Nat.zero_le _
            · exact ⟨Nat.zero_le _, Own.nil, Own.nil⟩
end
end Go.Proofs.YtpbflnfcgcldkaaGreatDoor.Lab
/- What comes in to TopLabels; from the premise of its row to what the walk asks of the world. -/
namespace Go.Proofs.YtpbflnfcgcldkaaGreatDoor.labels
open Go.Sx Go.Proofs Go.RowKit Go.WideShapes Go.Lib
open Side (eFmt eTrk eFmt_len Fmt Trk NoneAt)
section
variable {W : World}
set_option maxRecDepth 100000 in
theorem open_fmts {cs : List Value} (h : Dat Tryz.prog W 94 cs) : ∃ A l c, cs = [.slice A (List.length l) c] ∧ RdL W 8 eFmt A l ∧ l.length ≤ c ∧ c ≤ maxLen := by
  obtain ⟨A, l, c, h1, h2, _, h3, h4⟩ := Dat.slice (enc := eFmt) (G := fun _ => True) 8 Tryz.underlying94 ce_fmt (fun cs h => by
    obtain ⟨f, e, _⟩ := open_fmtD h
    exact ⟨f, trivial, e⟩) eFmt_len h
  exact ⟨A, l, c, h1, h2, h3, h4⟩
set_option maxRecDepth 100000 in
theorem open_trks {cs : List Value} (h : Dat Tryz.prog W 95 cs) : ∃ A l c, cs = [.slice A (List.length l) c] ∧ RdL W 3 eTrk A l ∧ l.length ≤ c ∧ c ≤ maxLen := by
  obtain ⟨A, l, c, h1, h2, _, h3, h4⟩ := Dat.slice (enc := eTrk) (G := fun _ => True) 3 Tryz.underlying95 (by kernel_rfl) (fun cs h => by
    obtain ⟨zs, hl, hcs, _⟩ := Dat.intStruct (k := .i64) Tryz.underlying301 (by kernel_rfl) (by kernel_rfl) h
    match zs, hl, hcs with
    | [z0, z1, z2], _, hcs => exact ⟨⟨z0, z1, z2⟩, trivial, hcs⟩) (fun _ => rfl) h
  exact ⟨A, l, c, h1, h2, h3, h4⟩
end
set_option maxRecDepth 100000 in
theorem none_of {W : World} {r : List (String × DataW Unit)} (h : laidMet Tryz.prog (("deadwax/side.none", Rows.laid_deadwax_side_none) :: r) W) : NoneAt W := by
  obtain ⟨ps, ⟨g', t', cs, fuel, p, q, hg', ht', hvar, hd, _, _⟩, _⟩ := h
  obtain rfl := Option.some.inj ((show Tryz.prog.globalNamed "deadwax/side.none" = some 0 by kernel_rfl).symm.trans hg')
  obtain rfl := Option.some.inj ((show (Tryz.prog.globals[0]?).map (·.type) = some 198 by kernel_rfl).symm.trans ht')
  have hc := cells_of_tab (k := .i64) (zs := [-1, 0]) Tryz.underlying198 Tryz.underlying2 (by kernel_rfl) (by kernel_rfl) hd
  intro j v hv
  have hcell := World.var?_cell hg' hvar j
  rw [hcell, ← Array.getElem?_toList, hc]
  exact hv
def Env (W : World) : Prop := Slv.GrowsAt W ∧ NoneAt W
set_option maxRecDepth 100000 in
theorem env_of {W : World} (hL : laidMetH Tryz.prog Rows.topLabelsRow.laid W) (_hS : W.ShapedOpen Tryz.prog) : Env W := by
  rw [MakeChecks.laidMetH_plain _ _ _ (by kernel_rfl)] at hL
  have h0 : laidMet Tryz.prog [("unicode/utf8.acceptRanges", Rows.laid_unicode_utf8_acceptRanges), ("deadwax/side.none", Rows.laid_deadwax_side_none), ("deadwax/sleeve.grows", Rows.laid_deadwax_sleeve_grows), ("unicode/utf8.first", Rows.laid_unicode_utf8_first)] W := hL
  exact ⟨grows_of h0.tail.tail, none_of h0.tail⟩
theorem L_TopLabels {w : World} {A A2 : Option Addr} {c c2 : Nat} {fs : List Fmt} {ts : List Trk} {x3 x4 x5 : Int} (hE : Env w) (hf : RdL w 8 eFmt A fs) (_ : fs.length ≤ c ∧ c ≤ maxLen) (h : RdL w 3 eTrk A2 ts) (_ : ts.length ≤ c2 ∧ c2 ≤ maxLen) (h3 : 0 ≤ x3 ∧ x3 ≤ 65535) (h4 : 0 ≤ x4 ∧ x4 ≤ 255) (h5 : 0 ≤ x5 ∧ x5 ≤ 65535) :
    Con0 Tryz.prog 6 [.slice A fs.length c, .slice A2 ts.length c2, .int .u16 x3, .int .u8 x4, .int .u16 x5] w (.bool true) := Lab.C_TopLabels hE.1 hE.2 hf h h3 h4 h5
end Go.Proofs.YtpbflnfcgcldkaaGreatDoor.labels
