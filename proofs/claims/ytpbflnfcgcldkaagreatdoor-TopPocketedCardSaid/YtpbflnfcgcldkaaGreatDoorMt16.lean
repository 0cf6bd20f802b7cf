/- Texts of this proof, one behind the other: Ua5, Uf2, Uf3, Uf4, Uf5, Uf7, Uf6, Ud1. -/
import Derived.Test.YtpbflnfcgcldkaaGreatDoorMt15
import Derived.Test.YtpbflnfcgcldkaaGreatDoorMt14
/- Designs on sheets: how many sheets are enough, plain and walked. -/
namespace Go.Proofs.YtpbflnfcgcldkaaGreatDoor.Slv
open Go.Sx Go.Proofs Go.RowKit
open Side (eN eN_len eN_one getD_memT sh_trans)
def cd (n m : Int) : Int := (n + m - 1) / m
def plL (l : List Int) (m : Int) : List Int := l.map (cd · m)
def rsum (l : List Int) (m : Int) : Int := (plL l m).sum
theorem cd_le {n m k : Int} (hm : 1 ≤ m) : cd n m ≤ k ↔ n ≤ k * m := by
  unfold cd
  rw [← Int.lt_add_one_iff, Int.ediv_lt_iff_lt_mul (by omega), Int.add_mul]
  omega
theorem cd_bd {n m : Int} (hn : 1 ≤ n) (hm : 1 ≤ m) : 1 ≤ cd n m ∧ cd n m ≤ n := by
  constructor
  · have h : ¬ cd n m ≤ 0 := by rw [cd_le hm]; omega
    omega
  · rw [cd_le hm]
    have := Int.mul_le_mul_of_nonneg_left hm (show 0 ≤ n by omega)
    omega
theorem cd_anti {n m m' : Int} (hn : 1 ≤ n) (hm : 1 ≤ m) (h : m ≤ m') : cd n m' ≤ cd n m := by
  rw [cd_le (by omega)]
  have h1 : n ≤ cd n m * m := (cd_le hm).1 (Int.le_refl _)
  have h2 := cd_bd hn hm
  have := Int.mul_le_mul_of_nonneg_left h (show 0 ≤ cd n m by omega)
  omega
theorem cd_top {n m : Int} (hn : 1 ≤ n) (h : n ≤ m) : cd n m = 1 := by
  have h1 : cd n m ≤ 1 := by rw [cd_le (by omega)]; omega
  have := cd_bd hn (show 1 ≤ m by omega)
  omega
theorem rsum_cons (x : Int) (l : List Int) (m : Int) : rsum (x :: l) m = cd x m + rsum l m := by unfold rsum plL; rw [List.map_cons, List.sum_cons]
theorem rsum_anti {l : List Int} {m m' : Int} (hl : ∀ x ∈ l, 1 ≤ x) (hm : 1 ≤ m) (h : m ≤ m') : rsum l m' ≤ rsum l m := by
  induction l with
  | nil => exact Int.le_refl _
  | cons x l ih =>
    rw [rsum_cons, rsum_cons]
    have := cd_anti (hl x (List.mem_cons_self ..)) hm h
    have := ih fun y hy => hl y (List.mem_cons_of_mem _ hy)
    omega
theorem rsum_top {l : List Int} {m : Int} (hl : ∀ x ∈ l, 1 ≤ x ∧ x ≤ m) : rsum l m = l.length := by
  induction l with
  | nil => rfl
  | cons x l ih =>
    rw [rsum_cons, ih fun y hy => hl y (List.mem_cons_of_mem _ hy)]
    have := hl x (List.mem_cons_self ..)
    rw [cd_top this.1 this.2, List.length_cons]; omega
structure Lst (l : List Int) (s n : Int) : Prop where
  lo : 1 ≤ n
  hi : n ≤ 1048576
  ok : rsum l n ≤ s
  least : ∀ m, 1 ≤ m → m < n → s < rsum l m
theorem Lst.uniq {l : List Int} {s n n' : Int} (h : Lst l s n) (h' : Lst l s n') : n = n' := by
  have h1 := h.lo; have h2 := h'.lo
  rcases (show n < n' ∨ n = n' ∨ n' < n by omega) with q | q | q
  · have := h'.least n h1 q; have := h.ok; omega
  · exact q
  · have := h.least n' h2 q; have := h'.ok; omega
def CopOk (l : List Int) : Prop := l.length ≤ 8 ∧ ∀ x ∈ l, 1 ≤ x ∧ x ≤ 1048576
section
variable {w w0 : World} {A : Option Addr} {c : Nat} {l : List Int}
theorem C_outS {n lo hi : Int} (h : lo ≤ n ∧ n ≤ hi) : Con0 Tryz.prog 144 [I n, I lo, I hi] w (.bool false) := by
  refine Ret_of (vs := [_, _, _]) hm none' Tryz.func144 rfl Tryz.ntmps144 rfl ?_
  dsimp only [slotsOf]
  refine GE_seq ?_
  refine GE_plain (.st 0 .nil) rfl ?_
  refine GT_st rfl rfl rfl rfl (V_assign rfl rfl) ?_
  refine GT_nil ?_
  refine GE_seq ?_
  refine GE_plain (.st 0 (.st 1 (.st 2 (.st 3 (.st 4 (.st 5 (.st 6 (.st 7 (.st 8 .nil))))))))) rfl ?_
  refine GT_st rfl rfl rfl rfl (V_move rfl rfl) ?_
  refine GT_st rfl rfl rfl rfl (V_move rfl rfl) ?_
  refine GT_st rfl rfl rfl rfl (V_lss rfl rfl rfl) ?_
  refine GT_st rfl rfl rfl rfl (V_move rfl rfl) ?_
  first | refine GT_splitNot (d := 10) rfl (fun h1 => ?_) (fun h1 => ?_) | refine GT_split (d := 10) rfl (fun h1 => ?_) (fun h1 => ?_) | refine GT_splitNotB (d := 10) rfl (fun h1 => ?_) (fun h1 => ?_) | refine GT_splitB (d := 10) rfl (fun h1 => ?_) (fun h1 => ?_)
  · skip
    refine GT_skip rfl rfl rfl rfl rfl (by decide) rfl rfl ?_
    refine GT_skip rfl rfl rfl rfl rfl (by decide) rfl rfl ?_
    refine GT_skip rfl rfl rfl rfl rfl (by decide) rfl rfl ?_
    refine GT_st rfl rfl rfl rfl (V_pick_t rfl rfl rfl) ?_
    refine GT_st rfl rfl rfl rfl (V_assign rfl rfl) ?_
    refine GT_nil ?_
    refine GE_ret Tryz.func144 rfl (fun w hw => ⟨?_, hw.nil⟩)
    refine congrArg Value.bool ?_; simp; omega
  · skip
    refine GT_st_g rfl rfl rfl rfl rfl rfl rfl (V_move rfl rfl) ?_
    refine GT_st_g rfl rfl rfl rfl rfl rfl rfl (V_move rfl rfl) ?_
    refine GT_st_g rfl rfl rfl rfl rfl rfl rfl (V_gtr rfl rfl rfl) ?_
    refine GT_st rfl rfl rfl rfl (V_pick_f rfl rfl rfl) ?_
    refine GT_st rfl rfl rfl rfl (V_assign rfl rfl) ?_
    refine GT_nil ?_
    refine GE_ret Tryz.func144 rfl (fun w hw => ⟨?_, hw.nil⟩)
    refine congrArg Value.bool ?_; simp; omega
variable {p : Int → Bool} {fi : Nat} {cs : List Value}
theorem C_Idx64 (hr : RdL w 1 eN A l) (hl : l.length ≤ 1000000) (hrun : runs Tryz.prog fi = true) (hf : ∀ w' H, SH w none' H w' → ∀ x ∈ l, Con0 Tryz.prog fi (I x :: cs) w' (.bool (p x))) :
    Con0 Tryz.prog 206 [.slice A l.length c, .func (.func fi) #[] cs.toArray] w (I (ixI (l.findIdx? p))) := by
  refine Ret_of (vs := [_, _]) hm none' Tryz.func206 rfl Tryz.ntmps206 rfl ?_
  dsimp only [slotsOf]
  refine GE_seq ?_
  refine GE_plain (.st 0 .nil) rfl ?_
  refine GT_st rfl rfl rfl rfl (V_assign rfl rfl) ?_
  refine GT_nil ?_
  refine GE_seq ?_
  refine GE_seq ?_
  refine GE_plain (.st 0 (.st 1 (.st 2 .nil))) rfl ?_
  refine GT_st rfl rfl rfl rfl (V_move rfl rfl) ?_
  refine GT_st rfl rfl rfl rfl (V_len rfl Tryz.underlying43 rfl) ?_
  refine GT_st rfl rfl rfl rfl (V_move rfl rfl) ?_
  refine GT_nil ?_
  refine GE_block ?_
  refine GE_to (GE_loop (ι := Nat) (fun k => l.length - k) (fun k => [(0, .slice A l.length c), (1, .func (.func fi) #[] cs.toArray), (7, I l.length), (8, I k)]) (fun k => []) (fun k => k ≤ l.length ∧ ∀ j, j < k → p (l.getD j default) = false) ?_ 0 ?_) ⟨rfl, rfl, rfl, rfl, trivial⟩ HS.nil
  · rintro k ⟨hk, hall⟩ ih
    refine GE_seq ?_
    refine GE_plain (.st 0 .nil) rfl ?_
    refine GT_st rfl rfl rfl rfl (V_lss rfl rfl rfl) ?_
    refine GT_nil ?_
    refine GE_seq ?_
    first | refine GE_condNot rfl (fun h1 => ?_) (fun h1 => ?_) | refine GE_cond rfl (fun h1 => ?_) (fun h1 => ?_) | refine GE_condNotB rfl (fun h1 => ?_) (fun h1 => ?_) | refine GE_condB rfl (fun h1 => ?_) (fun h1 => ?_)
    · have hlt : k < l.length := (by omega)
      refine GE_skip ?_
      refine GE_seq ?_
      refine GE_block ?_
      refine GE_seq ?_
      refine GE_plain (.st 0 (.st 1 .nil)) rfl ?_
      refine GT_st rfl rfl rfl rfl (V_move rfl rfl) ?_
      refine GT_st rfl rfl rfl rfl (V_assign rfl rfl) ?_
      refine GT_nil ?_
      refine GE_seq ?_
      refine GE_plain (.st 0 (.st 1 (.st 2 (.st 3 (.st 4 (.ld 5 [] .nil)))))) rfl ?_
      refine GT_st rfl rfl rfl rfl (V_move rfl rfl) ?_
      refine GT_st rfl rfl rfl rfl (V_move rfl rfl) ?_
      refine GT_st rfl rfl rfl rfl (V_move rfl rfl) ?_
      refine GT_st rfl rfl rfl rfl (V_index rfl rfl rfl Tryz.underlying43 sz_2 rfl hlt (hr.isSome hlt)) ?_
      refine GT_st rfl rfl rfl rfl (V_load rfl rfl ag_2 (hr.at0 noM hlt rfl)) ?_
      refine GT_call0 (fi := fi) rfl rfl rfl rfl rfl rfl rfl rfl hrun (fun w hw => hf _ _ hw _ (getD_memT hlt)) (GR_nil) ?_
      refine GT_nil ?_
      first | refine GE_condNot rfl (fun hb => ?_) (fun hb => ?_) | refine GE_cond rfl (fun hb => ?_) (fun hb => ?_) | refine GE_condNotB rfl (fun hb => ?_) (fun hb => ?_) | refine GE_condB rfl (fun hb => ?_) (fun hb => ?_)
      · skip
        refine GE_seq ?_
        refine GE_slots (L' := [(5, _)]) ⟨rfl, trivial⟩ ?_
        refine GE_plain (.st 0 (.st 1 .nil)) rfl ?_
        refine GT_st rfl rfl rfl rfl (V_move rfl rfl) ?_
        refine GT_st rfl rfl rfl rfl (V_assign rfl rfl) ?_
        refine GT_nil ?_
        refine GE_ret Tryz.func206 rfl (fun w hw => ⟨?_, hw.nil⟩)
        rw [fi_some hlt hb hall]; rfl
      · skip
        refine GE_skip ?_
        refine GE_inBlock ?_
        refine GE_slots (L' := [(0, _), (1, _), (7, _), (8, _)]) ⟨rfl, rfl, rfl, rfl, trivial⟩ ?_
        refine GE_plain (.st 0 (.ld 1 [] .nil)) rfl ?_
        refine GT_st rfl rfl rfl rfl (V_add rfl rfl rfl (wrap_i64 (by omega))) ?_
        refine GT_ldv rfl rfl rfl rfl rfl (V_move rfl rfl) (GR_nil) ?_
        refine GT_nil ?_
        exact GE_to (ih (k + 1) ⟨by omega, fun j hj => by by_cases e : j = k; (subst e; exact hb); exact hall j (by omega)⟩ (by omega)) ⟨rfl, rfl, rfl, rfl, trivial⟩ HS.nil
    · obtain rfl : k = l.length := (by omega)
      refine GE_exit rfl ?_
      refine GE_seq ?_
      refine GE_slots (L' := []) trivial ?_
      refine GE_plain (.st 0 .nil) rfl ?_
      refine GT_st rfl rfl rfl rfl (V_assign rfl rfl) ?_
      refine GT_nil ?_
      refine GE_ret Tryz.func206 rfl (fun w hw => ⟨?_, hw.nil⟩)
      rw [fi_none hall]; rfl
  · exact ⟨Nat.zero_le _, fun j hj => by omega⟩
theorem C_Cont64 (hr : RdL w 1 eN A l) (hl : l.length ≤ 1000000) (hrun : runs Tryz.prog fi = true) (hf : ∀ w' H, SH w none' H w' → ∀ x ∈ l, Con0 Tryz.prog fi (I x :: cs) w' (.bool (p x))) (hno : ∀ x ∈ l, p x = false) :
    Con0 Tryz.prog 142 [.slice A l.length c, .func (.func fi) #[] cs.toArray] w (.bool false) := by
  have e : l.findIdx? p = none := fi_none fun j hj => hno _ (getD_memT hj)
  refine Ret_of (vs := [_, _]) hm none' Tryz.func142 rfl Tryz.ntmps142 rfl ?_
  dsimp only [slotsOf]
  refine GE_seq ?_
  refine GE_plain (.st 0 .nil) rfl ?_
  refine GT_st rfl rfl rfl rfl (V_assign rfl rfl) ?_
  refine GT_nil ?_
  refine GE_seq ?_
  refine GE_plain (.st 0 (.st 1 (.ld 2 [] (.st 3 (.st 4 .nil))))) rfl ?_
  refine GT_st rfl rfl rfl rfl (V_move rfl rfl) ?_
  refine GT_st rfl rfl rfl rfl (V_move rfl rfl) ?_
  refine GT_call0 rfl rfl rfl rfl rfl rfl rfl rfl rn_206 (fun w hw => C_Idx64 (hr.sh hw) hl hrun (fun w' H m x hx => hf w' [] (Side.sh_trans hw m) x hx)) (GR_nil) ?_
  refine GT_st rfl rfl rfl rfl (V_geq rfl rfl rfl) ?_
  refine GT_st rfl rfl rfl rfl (V_assign rfl rfl) ?_
  refine GT_nil ?_
  refine GE_ret Tryz.func142 rfl (fun w hw => ⟨?_, hw.nil⟩)
  rw [e]; rfl
theorem C_cop1 {x : Int} (h : 1 ≤ x ∧ x ≤ 1048576) : Con0 Tryz.prog 143 [I x] w (.bool false) := by
  refine Ret_of (vs := [_]) hm none' Tryz.func143 rfl Tryz.ntmps143 rfl ?_
  dsimp only [slotsOf]
  refine GE_seq ?_
  refine GE_plain (.st 0 .nil) rfl ?_
  refine GT_st rfl rfl rfl rfl (V_assign rfl rfl) ?_
  refine GT_nil ?_
  refine GE_seq ?_
  refine GE_plain (.st 0 (.ld 1 [] (.st 2 .nil))) rfl ?_
  refine GT_st rfl rfl rfl rfl (V_move rfl rfl) ?_
  refine GT_call0 rfl rfl rfl rfl rfl rfl rfl rfl rn_144 (fun w hw => C_outS h) (GR_nil) ?_
  refine GT_st rfl rfl rfl rfl (V_assign rfl rfl) ?_
  refine GT_nil ?_
  refine GE_ret Tryz.func143 rfl (fun w hw => ⟨?_, hw.nil⟩)
  rfl
theorem C_CheckCopies {s t : Int} (hr : RdL w 1 eN A l) (hc : CopOk l) (hs : 1 ≤ s ∧ s ≤ 64) (ht : 0 ≤ t ∧ t ≤ 1048576) : Con0 Tryz.prog 85 [.slice A l.length c, I s, I t] w (I 0) := by
  obtain ⟨h1, h2⟩ := hc
  refine Ret_of (vs := [_, _, _]) hm none' Tryz.func85 rfl Tryz.ntmps85 rfl ?_
  dsimp only [slotsOf]
  refine GE_seq ?_
  refine GE_plain (.st 0 .nil) rfl ?_
  refine GT_st rfl rfl rfl rfl (V_assign rfl rfl) ?_
  refine GT_nil ?_
  refine GE_seq ?_
  refine GE_block ?_
  refine GE_seq ?_
  refine GE_plain (.st 0 (.st 1 (.st 2 (.st 3 .nil)))) rfl ?_
  refine GT_st rfl rfl rfl rfl (V_move rfl rfl) ?_
  refine GT_st rfl rfl rfl rfl (V_len rfl Tryz.underlying43 rfl) ?_
  refine GT_st rfl rfl rfl rfl (V_isF (V_gtr rfl rfl rfl) (by omega)) ?_
  refine GT_st rfl rfl rfl rfl (V_assign rfl rfl) ?_
  refine GT_nil ?_
  refine GE_cond_f rfl ?_
  refine GE_seq ?_
  refine GE_slots (L' := [(0, _), (1, _), (2, _)]) ⟨rfl, rfl, rfl, trivial⟩ ?_
  refine GE_plain (.st 0 (.ld 1 [] (.st 2 .nil))) rfl ?_
  refine GT_st rfl rfl rfl rfl (V_move rfl rfl) ?_
  refine GT_call0 rfl rfl rfl rfl rfl rfl rfl rfl rn_142 (fun w hw => C_Cont64 (l := l) (p := fun _ => false) (cs := []) (hr.sh hw) (by omega) rn_143 (fun w' H m x hx => C_cop1 (h2 x hx)) (fun _ _ => rfl)) (GR_nil) ?_
  refine GT_st rfl rfl rfl rfl (V_assign rfl rfl) ?_
  refine GT_nil ?_
  refine GE_cond_f rfl ?_
  refine GE_seq ?_
  refine GE_slots (L' := [(1, _), (2, _)]) ⟨rfl, rfl, trivial⟩ ?_
  refine GE_plain (.st 0 (.ld 1 [] (.st 2 (.st 3 (.ld 4 [] (.st 5 (.st 6 .nil))))))) rfl ?_
  refine GT_st rfl rfl rfl rfl (V_move rfl rfl) ?_
  refine GT_call0 rfl rfl rfl rfl rfl rfl rfl rfl rn_144 (fun w hw => C_outS hs) (GR_nil) ?_
  refine GT_st rfl rfl rfl rfl (V_move rfl rfl) ?_
  refine GT_st_g rfl rfl rfl rfl rfl rfl rfl (V_move rfl rfl) ?_
  refine GT_call0_g rfl rfl rfl rfl rfl rfl rfl rfl rfl rfl rfl rn_144 (fun w hw => C_outS ht) (GR_nil) ?_
  refine GT_st rfl rfl rfl rfl (V_pick_f rfl rfl rfl) ?_
  refine GT_st rfl rfl rfl rfl (V_assign rfl rfl) ?_
  refine GT_nil ?_
  refine GE_cond_f rfl ?_
  refine GE_skip ?_
  refine GE_inBlock ?_
  refine GE_seq ?_
  refine GE_slots (L' := []) trivial ?_
  refine GE_plain (.st 0 .nil) rfl ?_
  refine GT_st rfl rfl rfl rfl (V_assign rfl rfl) ?_
  refine GT_nil ?_
  refine GE_ret Tryz.func85 rfl (fun w hw => ⟨?_, hw.nil⟩)
  rfl
theorem C_Max (hr : RdL w 1 eN A l) (hl : 1 ≤ l.length ∧ l.length ≤ 1000000) : Con Tryz.prog 145 [.slice A l.length c] w (fun x : Int => x ∈ l ∧ ∀ y ∈ l, y ≤ x) (fun x => I x) (fun _ => []) := by
  have hl0 : 0 < l.length := hl.1
  refine Ret_of (vs := [_]) hm none' Tryz.func145 rfl Tryz.ntmps145 rfl ?_
  dsimp only [slotsOf]
  refine GE_seq ?_
  refine GE_plain (.st 0 .nil) rfl ?_
  refine GT_st rfl rfl rfl rfl (V_assign rfl rfl) ?_
  refine GT_nil ?_
  refine GE_seq ?_
  refine GE_seq ?_
  refine GE_plain (.st 0 (.st 1 (.st 2 .nil))) rfl ?_
  refine GT_st rfl rfl rfl rfl (V_move rfl rfl) ?_
  refine GT_st rfl rfl rfl rfl (V_len rfl Tryz.underlying43 rfl) ?_
  refine GT_st rfl rfl rfl rfl (V_isF (V_lss rfl rfl rfl) (by omega)) ?_
  refine GT_nil ?_
  refine GE_cond_f rfl ?_
  refine GE_skip ?_
  refine GE_seq ?_
  refine GE_slots (L' := [(0, _)]) ⟨rfl, trivial⟩ ?_
  refine GE_plain (.st 0 (.st 1 (.st 2 (.st 3 .nil)))) rfl ?_
  refine GT_st rfl rfl rfl rfl (V_move rfl rfl) ?_
  refine GT_st rfl rfl rfl rfl (V_index (k := 0) rfl rfl rfl Tryz.underlying43 sz_2 rfl hl0 (hr.isSome hl0)) ?_
  refine GT_st rfl rfl rfl rfl (V_load rfl rfl ag_2 (hr.at0 noM hl0 rfl)) ?_
  refine GT_st rfl rfl rfl rfl (V_assign rfl rfl) ?_
  refine GT_nil ?_
  refine GE_seq ?_
  refine GE_seq ?_
  refine GE_plain (.st 0 .nil) rfl ?_
  refine GT_st rfl rfl rfl rfl (V_assign rfl rfl) ?_
  refine GT_nil ?_
  refine GE_block ?_
  refine GE_to (GE_loop (ι := Nat × Int) (fun z => l.length - z.1) (fun z => [(0, .slice A l.length c), (3, I z.2), (4, I z.1)]) (fun z => []) (fun z => (1 ≤ z.1 ∧ z.1 ≤ l.length) ∧ z.2 ∈ l ∧ ∀ j, j < z.1 → l.getD j default ≤ z.2) ?_ (1, l.getD 0 default) ?_) ⟨rfl, rfl, rfl, trivial⟩ HS.nil
  · rintro ⟨k, x⟩ ⟨⟨hk1, hk⟩, hm1, hall⟩ ih; dsimp only at hk1 hk hm1 hall ih ⊢
    refine GE_seq ?_
    refine GE_seq ?_
    refine GE_plain (.st 0 (.st 1 (.st 2 (.st 3 .nil)))) rfl ?_
    refine GT_st rfl rfl rfl rfl (V_move rfl rfl) ?_
    refine GT_st rfl rfl rfl rfl (V_move rfl rfl) ?_
    refine GT_st rfl rfl rfl rfl (V_len rfl Tryz.underlying43 rfl) ?_
    refine GT_st rfl rfl rfl rfl (V_lss rfl rfl rfl) ?_
    refine GT_nil ?_
    first | refine GE_condNot rfl (fun q1 => ?_) (fun q1 => ?_) | refine GE_cond rfl (fun q1 => ?_) (fun q1 => ?_) | refine GE_condNotB rfl (fun q1 => ?_) (fun q1 => ?_) | refine GE_condB rfl (fun q1 => ?_) (fun q1 => ?_)
    · have hkl : k < l.length := (by omega)
      refine GE_skip ?_
      refine GE_seq ?_
      refine GE_block ?_
      refine GE_slots (L' := [(0, _), (3, _), (4, _)]) ⟨rfl, rfl, rfl, trivial⟩ ?_
      refine GE_plain (.st 0 (.st 1 (.st 2 (.st 3 (.st 4 (.st 5 (.ld 6 [] .nil))))))) rfl ?_
      refine GT_st rfl rfl rfl rfl (V_move rfl rfl) ?_
      refine GT_st rfl rfl rfl rfl (V_move rfl rfl) ?_
      refine GT_st rfl rfl rfl rfl (V_move rfl rfl) ?_
      refine GT_st rfl rfl rfl rfl (V_index rfl rfl rfl Tryz.underlying43 sz_2 rfl hkl (hr.isSome hkl)) ?_
      refine GT_st rfl rfl rfl rfl (V_load rfl rfl ag_2 (hr.at0 noM hkl rfl)) ?_
      refine GT_st rfl rfl rfl rfl (V_max rfl rfl rfl) ?_
      refine GT_ldv rfl rfl rfl rfl rfl (V_assign rfl rfl) (GR_nil) ?_
      refine GT_nil ?_
      refine GE_inBlock ?_
      refine GE_slots (L' := [(0, _), (3, _), (4, _)]) ⟨rfl, rfl, rfl, trivial⟩ ?_
      refine GE_plain (.st 0 (.st 1 (.ld 2 [] .nil))) rfl ?_
      refine GT_st rfl rfl rfl rfl (V_move rfl rfl) ?_
      refine GT_st rfl rfl rfl rfl (V_add rfl rfl rfl (wrap_i64 (by omega))) ?_
      refine GT_ldv rfl rfl rfl rfl rfl (V_assign rfl rfl) (GR_nil) ?_
      refine GT_nil ?_
      exact GE_to (ih (k + 1, max x (l.getD k default)) ⟨⟨by dsimp only; omega, by dsimp only; omega⟩, by dsimp only; rcases (show max x (l.getD k default) = x ∨ max x (l.getD k default) = l.getD k default by omega) with e | e <;> rw [e]; exact hm1; exact getD_memT hkl, fun j hj => by dsimp only at hj ⊢; by_cases e : j = k; (subst e; exact Int.le_max_right ..); exact Int.le_trans (hall j (by omega)) (Int.le_max_left ..)⟩ (by dsimp only; omega)) ⟨rfl, rfl, rfl, trivial⟩ HS.nil
    · obtain rfl : k = l.length := (by omega)
      refine GE_exit rfl ?_
      refine GE_seq ?_
      refine GE_slots (L' := [(3, _)]) ⟨rfl, trivial⟩ ?_
      refine GE_plain (.st 0 (.st 1 .nil)) rfl ?_
      refine GT_st rfl rfl rfl rfl (V_move rfl rfl) ?_
      refine GT_st rfl rfl rfl rfl (V_assign rfl rfl) ?_
      refine GT_nil ?_
      refine GE_ret Tryz.func145 rfl (fun w hw => ?_)
      exact ⟨x, ⟨hm1, fun y hy => by obtain ⟨j, hj, rfl⟩ := List.mem_iff_getElem.1 hy; have := hall j hj; simpa [List.getD, hj] using this⟩, rfl, hw.nil⟩
  · exact ⟨⟨Nat.le_refl _, hl0⟩, getD_memT hl0, fun j hj => by obtain rfl : j = 0 := (by omega); exact Int.le_refl _⟩
theorem plL_succ {m : Int} {k : Nat} (hk : k < l.length) : plL (l.take (k + 1)) m = plL (l.take k) m ++ [cd (l.getD k default) m] := by
  unfold plL
  rw [List.take_succ_eq_append_getElem hk, List.map_append]
  simp [List.getD, hk]
theorem rsum_succ {m : Int} {k : Nat} (hk : k < l.length) : rsum (l.take (k + 1)) m = rsum (l.take k) m + cd (l.getD k default) m := by
  unfold rsum; rw [plL_succ hk, List.sum_append]; simp
theorem rsum_bd {m : Int} (hl : ∀ x ∈ l, 1 ≤ x ∧ x ≤ 1048576) (hm : 1 ≤ m) : 0 ≤ rsum l m ∧ rsum l m ≤ 1048576 * l.length := by
  induction l with
  | nil => exact ⟨Int.le_refl _, Int.le_refl _⟩
  | cons x l ih =>
    rw [rsum_cons, List.length_cons]
    have h1 := hl x (List.mem_cons_self ..)
    have := cd_bd h1.1 hm
    have := ih fun y hy => hl y (List.mem_cons_of_mem _ hy)
    omega
set_option maxRecDepth 10000 in
theorem C_places {m : Int} (hr : RdL w 1 eN A l) (hc : CopOk l) (hm1 : 1 ≤ m ∧ m ≤ 1048576) : Con Tryz.prog 87 [.slice A l.length c, I m] w (fun y : Option Addr × Nat × Items => Own 1 2 eN (plL l m) (.slice y.1 l.length y.2.1) y.2.2) (fun y => .tuple #[.slice y.1 l.length y.2.1, I (rsum l m)]) (fun y => y.2.2) := by
  obtain ⟨h8, hx⟩ := hc
  refine Ret_of (vs := [_, _]) hm none' Tryz.func87 rfl Tryz.ntmps87 rfl ?_
  dsimp only [slotsOf]
  refine GE_seq ?_
  refine GE_plain (.st 0 (.st 1 .nil)) rfl ?_
  refine GT_st rfl rfl rfl rfl (V_assign rfl rfl) ?_
  refine GT_st rfl rfl rfl rfl (V_assign rfl rfl) ?_
  refine GT_nil ?_
  refine GE_seq ?_
  refine GE_plain (.st 0 .nil) rfl ?_
  refine GT_st rfl rfl rfl rfl (V_assign rfl rfl) ?_
  refine GT_nil ?_
  refine GE_seq ?_
  refine GE_plain (.st 0 .nil) rfl ?_
  refine GT_st rfl rfl rfl rfl (V_assign rfl rfl) ?_
  refine GT_nil ?_
  refine GE_seq ?_
  refine GE_seq ?_
  refine GE_plain (.st 0 (.st 1 (.st 2 .nil))) rfl ?_
  refine GT_st rfl rfl rfl rfl (V_move rfl rfl) ?_
  refine GT_st rfl rfl rfl rfl (V_len rfl Tryz.underlying43 rfl) ?_
  refine GT_st rfl rfl rfl rfl (V_move rfl rfl) ?_
  refine GT_nil ?_
  refine GE_block ?_
  refine GE_to (GE_loop (ι := Nat × (Option Addr × Nat × Items)) (fun z => l.length - z.1) (fun z => [(1, I m), (6, .slice z.2.1 z.1 z.2.2.1), (7, I (rsum (l.take z.1) m)), (11, .slice A l.length c), (12, I l.length), (13, I z.1)]) (fun z => z.2.2.2) (fun z => z.1 ≤ l.length ∧ Own 1 2 eN (plL (l.take z.1) m) (.slice z.2.1 z.1 z.2.2.1) z.2.2.2) ?_ (0, (none, 0, [])) ?_) ⟨rfl, rfl, rfl, rfl, rfl, rfl, trivial⟩ HS.nil
  · rintro ⟨k, y⟩ ⟨hk, hO⟩ ih; dsimp only at hk hO ih ⊢
    refine GE_seq ?_
    refine GE_plain (.st 0 .nil) rfl ?_
    refine GT_st rfl rfl rfl rfl (V_lss rfl rfl rfl) ?_
    refine GT_nil ?_
    refine GE_seq ?_
    first | refine GE_condNot rfl (fun q1 => ?_) (fun q1 => ?_) | refine GE_cond rfl (fun q1 => ?_) (fun q1 => ?_) | refine GE_condNotB rfl (fun q1 => ?_) (fun q1 => ?_) | refine GE_condB rfl (fun q1 => ?_) (fun q1 => ?_)
    · have hkl : k < l.length := (by omega); have hb := hx _ (getD_memT hkl); have hcd := cd_bd (m := m) hb.1 hm1.1; have hsb := rsum_bd (l := l.take k) (m := m) (fun x h => hx x (List.mem_of_mem_take h)) hm1.1; have hll : (l.take k).length = k := (by rw [List.length_take]; omega); have hpl : (plL (l.take k) m).length = k := (by unfold plL; rw [List.length_map, hll])
      refine GE_skip ?_
      refine GE_seq ?_
      refine GE_block ?_
      refine GE_seq ?_
      refine GE_plain (.st 0 (.st 1 (.st 2 .nil))) rfl ?_
      refine GT_st rfl rfl rfl rfl (V_index rfl rfl rfl Tryz.underlying43 sz_2 rfl hkl (hr.isSome hkl)) ?_
      refine GT_st rfl rfl rfl rfl (V_load rfl rfl ag_2 (hr.at0 noM hkl rfl)) ?_
      refine GT_st rfl rfl rfl rfl (V_assign rfl rfl) ?_
      refine GT_nil ?_
      refine GE_seq ?_
      refine GE_plain (.st 0 (.st 1 (.st 2 (.st 3 (.st 4 (.st 5 (.st 6 .nil))))))) rfl ?_
      refine GT_st rfl rfl rfl rfl (V_move rfl rfl) ?_
      refine GT_st rfl rfl rfl rfl (V_move rfl rfl) ?_
      refine GT_st rfl rfl rfl rfl (V_add rfl rfl rfl (wrap_i64 (by omega))) ?_
      refine GT_st rfl rfl rfl rfl (V_sub rfl rfl rfl (wrap_i64 (by omega))) ?_
      refine GT_st rfl rfl rfl rfl (V_move rfl rfl) ?_
      refine GT_st rfl rfl rfl rfl (V_quo rfl rfl rfl (by omega) ((show IntKind.i64.wrap ((l.getD k default + m - 1).tdiv m) = cd (l.getD k default) m from by rw [Int.tdiv_eq_ediv_of_nonneg (by omega)]; exact wrap_i64 (by unfold cd at hcd; omega)))) ?_
      refine GT_st rfl rfl rfl rfl (V_assign rfl rfl) ?_
      refine GT_nil ?_
      refine GE_seq ?_
      refine GE_slots (L' := [(1, _), (6, _), (7, _), (10, _), (11, _), (12, _), (13, _)]) ⟨rfl, rfl, rfl, rfl, rfl, rfl, rfl, trivial⟩ ?_
      refine GE_plain (.st 0 (.st 1 (.ld 2 [] (.ld 3 [] (.ld 4 [] .nil))))) rfl ?_
      refine GT_st rfl rfl rfl rfl (V_move rfl rfl) ?_
      refine GT_st rfl rfl rfl rfl (V_move rfl rfl) ?_
      refine GT_buildSlice (z := [_]) rfl rfl rfl rfl rfl Tryz.underlying43 zc_2 sz_2 (by decide) rfl rfl (fun _ => GR_nil) (fun b25 => ?_)
      refine GT_append (enc := eN) (l := plL (l.take k) m) (m := [cd (l.getD k default) m]) rfl rfl rfl rfl rfl rfl rfl hO (fun w m => RdL.own' m eN_len) Tryz.underlying43 zc_2 sz_2 ⟨rfl, by decide⟩ by_2 ⟨by rw [hpl]; simp only [List.length_singleton]; omega, by rw [hpl]; simp only [List.length_singleton]; omega⟩ eN_len eN_one (fun _ _ _ _ => GR_nil) (fun A3 c3 I3 hO3 => ?_)
      rw [List.length_append, hpl, List.length_singleton] at hO3 ⊢
      refine GT_ldv rfl rfl rfl rfl rfl (V_assign rfl rfl) (GR_nil) ?_
      refine GT_nil ?_
      refine GE_slots (L' := [(1, _), (6, _), (7, _), (10, _), (11, _), (12, _), (13, _)]) ⟨rfl, rfl, rfl, rfl, rfl, rfl, rfl, trivial⟩ ?_
      refine GE_plain (.st 0 (.st 1 (.st 2 (.ld 3 [] .nil)))) rfl ?_
      refine GT_st rfl rfl rfl rfl (V_move rfl rfl) ?_
      refine GT_st rfl rfl rfl rfl (V_move rfl rfl) ?_
      refine GT_st rfl rfl rfl rfl (V_add rfl rfl rfl (wrap_i64 (by omega))) ?_
      refine GT_ldv rfl rfl rfl rfl rfl (V_assign rfl rfl) (GR_nil) ?_
      refine GT_nil ?_
      refine GE_inBlock ?_
      refine GE_slots (L' := [(1, _), (6, _), (7, _), (11, _), (12, _), (13, _)]) ⟨rfl, rfl, rfl, rfl, rfl, rfl, trivial⟩ ?_
      refine GE_plain (.st 0 (.ld 1 [] .nil)) rfl ?_
      refine GT_st rfl rfl rfl rfl (V_add rfl rfl rfl (wrap_i64 (by omega))) ?_
      refine GT_ldv rfl rfl rfl rfl rfl (V_move rfl rfl) (GR_nil) ?_
      refine GT_nil ?_
      exact GE_to (ih (k + 1, (A3, c3, I3)) ⟨by dsimp only; omega, by dsimp only; rw [plL_succ hkl]; exact hO3⟩ (by dsimp only; omega)) ⟨rfl, rfl, lookI rfl (by dsimp only; rw [rsum_succ hkl]), rfl, rfl, rfl, trivial⟩ HS.last
    · obtain rfl : k = l.length := (by omega); rw [List.take_length] at hO ⊢
      refine GE_exit rfl ?_
      refine GE_seq ?_
      refine GE_slots (L' := [(6, _), (7, _)]) ⟨rfl, rfl, trivial⟩ ?_
      refine GE_plain (.st 0 (.st 1 (.st 2 (.st 3 .nil)))) rfl ?_
      refine GT_st rfl rfl rfl rfl (V_move rfl rfl) ?_
      refine GT_st rfl rfl rfl rfl (V_move rfl rfl) ?_
      refine GT_st rfl rfl rfl rfl (V_assign rfl rfl) ?_
      refine GT_st rfl rfl rfl rfl (V_assign rfl rfl) ?_
      refine GT_nil ?_
      refine GE_ret Tryz.func87 ⟨_, _, rfl, rfl, rfl⟩ (fun w hw => ?_)
      exact ⟨y, hO, rfl, hw.hs (C := cx Tryz.prog hm 0 0 _ none' fun _ _ => True) HS.last⟩
  · exact ⟨Nat.zero_le _, Own.nil⟩
end
end Go.Proofs.YtpbflnfcgcldkaaGreatDoor.Slv
/- Rectangles, walked. -/
namespace Go.Proofs.YtpbflnfcgcldkaaGreatDoor.Net
open Go.Sx Go.Proofs Go.RowKit
open Side (getD_memT sh_trans)
section
variable {w : World} {b c : Box} {p : Pan}
theorem C_must {e : Int} : Con0 Tryz.prog 197 [.bool true, I e] w (.tuple #[]) := by
  refine Ret_of (vs := [_, _]) hm none' Tryz.func197 rfl Tryz.ntmps197 rfl ?_
  dsimp only [slotsOf]
  refine GE_seq ?_
  refine GE_plain (.st 0 (.st 1 .nil)) rfl ?_
  refine GT_st rfl rfl rfl rfl (V_move rfl rfl) ?_
  first | refine GT_st rfl rfl rfl rfl (V_not rfl rfl) ?_ | refine GT_st rfl rfl rfl rfl (V_notB rfl rfl) ?_
  refine GT_nil ?_
  refine GE_cond_f rfl ?_
  refine GE_skip ?_
  refine GE_end Tryz.func197 rfl (fun w hw => ⟨?_, hw.nil⟩)
  rfl
set_option maxRecDepth 20000 in
theorem C_common (h1 : bdB 100000000 b) (h2 : bdB 100000000 c) : Con0 Tryz.prog 80 [.agg (eBox b).toArray, .agg (eBox c).toArray] w (.tuple #[I (comW b c), I (comH b c)]) := by
  obtain ⟨a1, a2, a3, a4⟩ := h1
  obtain ⟨c1, c2, c3, c4⟩ := h2
  refine Ret_of (vs := [_, _]) hm none' Tryz.func80 rfl Tryz.ntmps80 rfl ?_
  dsimp only [slotsOf]
  refine GE_seq ?_
  refine GE_plain (.ld 0 [] (.ld 1 [] (.st 2 (.st 3 .nil)))) rfl ?_
  refine GT_box (z := [_, _, _, _, _]) rfl rfl rfl rfl rfl rfl rfl (fun _ => GR_nil) (fun b2 => ?_)
  refine GT_box (z := [_, _, _, _, _]) rfl rfl rfl rfl rfl rfl rfl (fun _ => GR_nil) (fun b3 => ?_)
  refine GT_st rfl rfl rfl rfl (V_assign rfl rfl) ?_
  refine GT_st rfl rfl rfl rfl (V_assign rfl rfl) ?_
  refine GT_nil ?_
  refine GE_seq ?_
  refine GE_slots (L' := [(2, _), (3, _)]) ⟨rfl, rfl, trivial⟩ ?_
  refine GE_drawn (.st 0 (.st 1 (.st 2 (.st 3 (.st 4 (.st 5 (.st 6 (.st 7 (.st 8 (.st 9 (.st 10 (.st 11 (.st 12 (.st 13 (.st 14 (.st 15 (.st 16 (.st 17 (.st 18 (.st 19 (.st 20 (.st 21 (.st 22 (.st 23 (.st 24 (.st 25 (.st 26 (.st 27 (.st 28 (.st 29 (.st 30 (.st 31 .nil)))))))))))))))))))))))))))))))) [] (by decide +kernel) ?_
  first | refine GT_st rfl rfl rfl rfl (V_field rfl rfl fo_191_0) ?_ | refine GT_st rfl rfl rfl rfl (V_fieldA rfl rfl fo_191_0) ?_
  first | refine GT_st rfl rfl rfl rfl (V_field rfl rfl fo_85_2) ?_ | refine GT_st rfl rfl rfl rfl (V_fieldA rfl rfl fo_85_2) ?_
  refine GT_st rfl rfl rfl rfl (V_load rfl rfl ag_2 (CellAt.item rfl)) ?_
  first | refine GT_st rfl rfl rfl rfl (V_field rfl rfl fo_191_0) ?_ | refine GT_st rfl rfl rfl rfl (V_fieldA rfl rfl fo_191_0) ?_
  first | refine GT_st rfl rfl rfl rfl (V_field rfl rfl fo_85_2) ?_ | refine GT_st rfl rfl rfl rfl (V_fieldA rfl rfl fo_85_2) ?_
  refine GT_st rfl rfl rfl rfl (V_load rfl rfl ag_2 (CellAt.item rfl)) ?_
  refine GT_st rfl rfl rfl rfl (V_min rfl rfl rfl) ?_
  first | refine GT_st rfl rfl rfl rfl (V_field rfl rfl fo_191_0) ?_ | refine GT_st rfl rfl rfl rfl (V_fieldA rfl rfl fo_191_0) ?_
  first | refine GT_st rfl rfl rfl rfl (V_field rfl rfl fo_85_0) ?_ | refine GT_st rfl rfl rfl rfl (V_fieldA rfl rfl fo_85_0) ?_
  refine GT_st rfl rfl rfl rfl (V_load rfl rfl ag_2 (CellAt.item rfl)) ?_
  first | refine GT_st rfl rfl rfl rfl (V_field rfl rfl fo_191_0) ?_ | refine GT_st rfl rfl rfl rfl (V_fieldA rfl rfl fo_191_0) ?_
  first | refine GT_st rfl rfl rfl rfl (V_field rfl rfl fo_85_0) ?_ | refine GT_st rfl rfl rfl rfl (V_fieldA rfl rfl fo_85_0) ?_
  refine GT_st rfl rfl rfl rfl (V_load rfl rfl ag_2 (CellAt.item rfl)) ?_
  refine GT_st rfl rfl rfl rfl (V_max rfl rfl rfl) ?_
  refine GT_st rfl rfl rfl rfl (V_sub rfl rfl rfl (wrap_i64 (by omega))) ?_
  first | refine GT_st rfl rfl rfl rfl (V_field rfl rfl fo_191_0) ?_ | refine GT_st rfl rfl rfl rfl (V_fieldA rfl rfl fo_191_0) ?_
  first | refine GT_st rfl rfl rfl rfl (V_field rfl rfl fo_85_3) ?_ | refine GT_st rfl rfl rfl rfl (V_fieldA rfl rfl fo_85_3) ?_
  refine GT_st rfl rfl rfl rfl (V_load rfl rfl ag_2 (CellAt.item rfl)) ?_
  first | refine GT_st rfl rfl rfl rfl (V_field rfl rfl fo_191_0) ?_ | refine GT_st rfl rfl rfl rfl (V_fieldA rfl rfl fo_191_0) ?_
  first | refine GT_st rfl rfl rfl rfl (V_field rfl rfl fo_85_3) ?_ | refine GT_st rfl rfl rfl rfl (V_fieldA rfl rfl fo_85_3) ?_
  refine GT_st rfl rfl rfl rfl (V_load rfl rfl ag_2 (CellAt.item rfl)) ?_
  refine GT_st rfl rfl rfl rfl (V_min rfl rfl rfl) ?_
  first | refine GT_st rfl rfl rfl rfl (V_field rfl rfl fo_191_0) ?_ | refine GT_st rfl rfl rfl rfl (V_fieldA rfl rfl fo_191_0) ?_
  first | refine GT_st rfl rfl rfl rfl (V_field rfl rfl fo_85_1) ?_ | refine GT_st rfl rfl rfl rfl (V_fieldA rfl rfl fo_85_1) ?_
  refine GT_st rfl rfl rfl rfl (V_load rfl rfl ag_2 (CellAt.item rfl)) ?_
  first | refine GT_st rfl rfl rfl rfl (V_field rfl rfl fo_191_0) ?_ | refine GT_st rfl rfl rfl rfl (V_fieldA rfl rfl fo_191_0) ?_
  first | refine GT_st rfl rfl rfl rfl (V_field rfl rfl fo_85_1) ?_ | refine GT_st rfl rfl rfl rfl (V_fieldA rfl rfl fo_85_1) ?_
  refine GT_st rfl rfl rfl rfl (V_load rfl rfl ag_2 (CellAt.item rfl)) ?_
  refine GT_st rfl rfl rfl rfl (V_max rfl rfl rfl) ?_
  refine GT_st rfl rfl rfl rfl (V_sub rfl rfl rfl (wrap_i64 (by omega))) ?_
  refine GT_st rfl rfl rfl rfl (V_assign rfl rfl) ?_
  refine GT_st rfl rfl rfl rfl (V_assign rfl rfl) ?_
  refine GT_nil ?_
  refine GE_ret Tryz.func80 ⟨_, _, rfl, rfl, rfl⟩ (fun w hw => ⟨?_, hw.nil⟩)
  rfl
set_option maxRecDepth 20000 in
theorem C_hang (h1 : bdB 100000000 b) (h2 : 1 ≤ p.wide ∧ p.wide ≤ 65536) (h3 : 1 ≤ p.high ∧ p.high ≤ 65536) (h4 : -65536 ≤ p.off ∧ p.off ≤ 65536) (h5 : 0 ≤ p.edge ∧ p.edge ≤ 3) : Con0 Tryz.prog 198 [.agg (eBox b).toArray, .agg (ePan p).toArray] w (.agg (eBox (hangB b p)).toArray) := by
  obtain ⟨a1, a2, a3, a4⟩ := h1
  refine Ret_of (vs := [_, _]) hm none' Tryz.func198 rfl Tryz.ntmps198 rfl ?_
  dsimp only [slotsOf]
  refine GE_seq ?_
  refine GE_plain (.ld 0 [] (.ld 1 [] (.ld 2 [] .nil))) rfl ?_
  refine GT_box (z := [_, _, _, _, _]) rfl rfl rfl rfl rfl rfl rfl (fun _ => GR_nil) (fun b2 => ?_)
  refine GT_box (z := [_, _, _, _, _]) rfl rfl rfl rfl rfl rfl rfl (fun _ => GR_nil) (fun b3 => ?_)
  refine GT_alloc rfl rfl rfl rfl rfl zc_191 (fun _ => GR_nil) (fun b4 => ?_)
  refine GT_nil ?_
  refine GE_seq ?_
  refine GE_drawn (.st 0 (.st 1 (.st 2 (.st 3 (.st 4 (.st 5 (.st 6 (.st 7 (.st 8 (.st 9 (.st 10 (.st 11 (.st 12 (.st 13 .nil)))))))))))))) [] (by decide +kernel) ?_
  first | refine GT_st rfl rfl rfl rfl (V_field rfl rfl fo_191_0) ?_ | refine GT_st rfl rfl rfl rfl (V_fieldA rfl rfl fo_191_0) ?_
  first | refine GT_st rfl rfl rfl rfl (V_field rfl rfl fo_85_0) ?_ | refine GT_st rfl rfl rfl rfl (V_fieldA rfl rfl fo_85_0) ?_
  refine GT_st rfl rfl rfl rfl (V_load rfl rfl ag_2 (CellAt.item rfl)) ?_
  first | refine GT_st rfl rfl rfl rfl (V_field rfl rfl fo_82_2) ?_ | refine GT_st rfl rfl rfl rfl (V_fieldA rfl rfl fo_82_2) ?_
  refine GT_st rfl rfl rfl rfl (V_load rfl rfl ag_2 (CellAt.item rfl)) ?_
  refine GT_st rfl rfl rfl rfl (V_add rfl rfl rfl (wrap_i64 (by omega))) ?_
  first | refine GT_st rfl rfl rfl rfl (V_field rfl rfl fo_191_0) ?_ | refine GT_st rfl rfl rfl rfl (V_fieldA rfl rfl fo_191_0) ?_
  first | refine GT_st rfl rfl rfl rfl (V_field rfl rfl fo_85_1) ?_ | refine GT_st rfl rfl rfl rfl (V_fieldA rfl rfl fo_85_1) ?_
  refine GT_st rfl rfl rfl rfl (V_load rfl rfl ag_2 (CellAt.item rfl)) ?_
  first | refine GT_st rfl rfl rfl rfl (V_field rfl rfl fo_82_2) ?_ | refine GT_st rfl rfl rfl rfl (V_fieldA rfl rfl fo_82_2) ?_
  refine GT_st rfl rfl rfl rfl (V_load rfl rfl ag_2 (CellAt.item rfl)) ?_
  refine GT_st rfl rfl rfl rfl (V_add rfl rfl rfl (wrap_i64 (by omega))) ?_
  refine GT_st rfl rfl rfl rfl (V_assign rfl rfl) ?_
  refine GT_st rfl rfl rfl rfl (V_assign rfl rfl) ?_
  refine GT_nil ?_
  refine GE_seq ?_
  refine GE_seq ?_
  refine GE_slots (L' := [(2, _), (3, _), (4, _), (5, _), (6, _)]) ⟨rfl, rfl, rfl, rfl, rfl, trivial⟩ ?_
  refine GE_plain (.st 0 (.st 1 .nil)) rfl ?_
  first | refine GT_st rfl rfl rfl rfl (V_field rfl rfl fo_82_1) ?_ | refine GT_st rfl rfl rfl rfl (V_fieldA rfl rfl fo_82_1) ?_
  refine GT_st rfl rfl rfl rfl (V_load rfl rfl ag_3 (CellAt.item rfl)) ?_
  refine GT_nil ?_
  refine GE_block ?_
  refine GE_seq ?_
  refine GE_plain (.st 0 (.st 1 .nil)) rfl ?_
  refine GT_st rfl rfl rfl rfl (V_eql rfl rfl rfl) ?_
  refine GT_st rfl rfl rfl rfl (V_assign rfl rfl) ?_
  refine GT_nil ?_
  first | refine GE_condNot rfl (fun q1 => ?_) (fun q1 => ?_) | refine GE_cond rfl (fun q1 => ?_) (fun q1 => ?_) | refine GE_condNotB rfl (fun q1 => ?_) (fun q1 => ?_) | refine GE_condB rfl (fun q1 => ?_) (fun q1 => ?_)
  · have e1 : hgX b p = b.x1 := (by rw [hgX, if_pos q1]); have e2 : hgY b p = b.y0 + p.off := (by rw [hgY, if_neg (by omega), if_neg (by omega)])
    refine GE_slots (L' := [(2, _), (3, _), (4, _), (6, _)]) ⟨rfl, rfl, rfl, rfl, trivial⟩ ?_
    refine GE_plain (.st 0 (.st 1 (.st 2 (.st 3 .nil)))) rfl ?_
    first | refine GT_st rfl rfl rfl rfl (V_field rfl rfl fo_191_0) ?_ | refine GT_st rfl rfl rfl rfl (V_fieldA rfl rfl fo_191_0) ?_
    first | refine GT_st rfl rfl rfl rfl (V_field rfl rfl fo_85_2) ?_ | refine GT_st rfl rfl rfl rfl (V_fieldA rfl rfl fo_85_2) ?_
    refine GT_st rfl rfl rfl rfl (V_load rfl rfl ag_2 (CellAt.item rfl)) ?_
    refine GT_st rfl rfl rfl rfl (V_assign rfl rfl) ?_
    refine GT_nil ?_
    refine GE_inBlock ?_
    refine GE_seq ?_
    refine GE_slots (L' := [(3, _), (4, _), (5, _), (6, _)]) ⟨rfl, rfl, rfl, rfl, trivial⟩ ?_
    refine GE_plain (.st 0 (.st 1 (.st 2 (.st 3 (.st 4 (.st 5 (.st 6 (.st 7 (.st 8 (.st 9 (.st 10 (.st 11 (.ld 12 [] .nil))))))))))))) rfl ?_
    refine GT_st rfl rfl rfl rfl (V_move rfl rfl) ?_
    refine GT_st rfl rfl rfl rfl (V_move rfl rfl) ?_
    refine GT_st rfl rfl rfl rfl (V_move rfl rfl) ?_
    first | refine GT_st rfl rfl rfl rfl (V_field rfl rfl fo_82_3) ?_ | refine GT_st rfl rfl rfl rfl (V_fieldA rfl rfl fo_82_3) ?_
    refine GT_st rfl rfl rfl rfl (V_load rfl rfl ag_2 (CellAt.item rfl)) ?_
    refine GT_st rfl rfl rfl rfl (V_add rfl rfl rfl (wrap_i64 (by omega))) ?_
    refine GT_st rfl rfl rfl rfl (V_move rfl rfl) ?_
    first | refine GT_st rfl rfl rfl rfl (V_field rfl rfl fo_82_4) ?_ | refine GT_st rfl rfl rfl rfl (V_fieldA rfl rfl fo_82_4) ?_
    refine GT_st rfl rfl rfl rfl (V_load rfl rfl ag_2 (CellAt.item rfl)) ?_
    refine GT_st rfl rfl rfl rfl (V_add rfl rfl rfl (wrap_i64 (by omega))) ?_
    refine GT_st rfl rfl rfl rfl (V_build (vs := [_, _, _, _, _]) rfl rfl zc_85 pl_85 sa_85 rfl) ?_
    refine GT_st rfl rfl rfl rfl (V_build (vs := [_, _, _, _, _]) rfl rfl zc_191 pl_191 sa_191 rfl) ?_
    refine GT_store (vs := [_, _, _, _, _]) (l' := [_, _, _, _, _]) rfl rfl rfl rfl rfl rfl rfl sz_191 rfl rfl (Nat.le_of_ble_eq_true rfl) rfl (GR_nil) ?_
    refine GT_nil ?_
    refine GE_ret Tryz.func198 ⟨_, rfl, fun w m => run_loadVar_agg (vs := [_, _, _, _, _]) ag_191 sz_191 rfl (fun j v hj => CellsAt.item rfl j v hj w m)⟩ (fun w hw => ⟨?_, hw.nil⟩)
    simp only [hangB, eBox, e1, e2]
  · skip
    refine GE_seq ?_
    refine GE_plain (.st 0 (.st 1 .nil)) rfl ?_
    refine GT_st rfl rfl rfl rfl (V_eql rfl rfl rfl) ?_
    refine GT_st rfl rfl rfl rfl (V_assign rfl rfl) ?_
    refine GT_nil ?_
    first | refine GE_condNot rfl (fun q2 => ?_) (fun q2 => ?_) | refine GE_cond rfl (fun q2 => ?_) (fun q2 => ?_) | refine GE_condNotB rfl (fun q2 => ?_) (fun q2 => ?_) | refine GE_condB rfl (fun q2 => ?_) (fun q2 => ?_)
    · have e1 : hgX b p = b.x0 + p.off := (by rw [hgX, if_neg q1, if_neg (by omega)]); have e2 : hgY b p = b.y1 := (by rw [hgY, if_pos q2])
      refine GE_slots (L' := [(2, _), (3, _), (4, _), (5, _)]) ⟨rfl, rfl, rfl, rfl, trivial⟩ ?_
      refine GE_plain (.st 0 (.st 1 (.st 2 (.st 3 .nil)))) rfl ?_
      first | refine GT_st rfl rfl rfl rfl (V_field rfl rfl fo_191_0) ?_ | refine GT_st rfl rfl rfl rfl (V_fieldA rfl rfl fo_191_0) ?_
      first | refine GT_st rfl rfl rfl rfl (V_field rfl rfl fo_85_3) ?_ | refine GT_st rfl rfl rfl rfl (V_fieldA rfl rfl fo_85_3) ?_
      refine GT_st rfl rfl rfl rfl (V_load rfl rfl ag_2 (CellAt.item rfl)) ?_
      refine GT_st rfl rfl rfl rfl (V_assign rfl rfl) ?_
      refine GT_nil ?_
      refine GE_inBlock ?_
      refine GE_seq ?_
      refine GE_slots (L' := [(3, _), (4, _), (5, _), (6, _)]) ⟨rfl, rfl, rfl, rfl, trivial⟩ ?_
      refine GE_plain (.st 0 (.st 1 (.st 2 (.st 3 (.st 4 (.st 5 (.st 6 (.st 7 (.st 8 (.st 9 (.st 10 (.st 11 (.ld 12 [] .nil))))))))))))) rfl ?_
      refine GT_st rfl rfl rfl rfl (V_move rfl rfl) ?_
      refine GT_st rfl rfl rfl rfl (V_move rfl rfl) ?_
      refine GT_st rfl rfl rfl rfl (V_move rfl rfl) ?_
      first | refine GT_st rfl rfl rfl rfl (V_field rfl rfl fo_82_3) ?_ | refine GT_st rfl rfl rfl rfl (V_fieldA rfl rfl fo_82_3) ?_
      refine GT_st rfl rfl rfl rfl (V_load rfl rfl ag_2 (CellAt.item rfl)) ?_
      refine GT_st rfl rfl rfl rfl (V_add rfl rfl rfl (wrap_i64 (by omega))) ?_
      refine GT_st rfl rfl rfl rfl (V_move rfl rfl) ?_
      first | refine GT_st rfl rfl rfl rfl (V_field rfl rfl fo_82_4) ?_ | refine GT_st rfl rfl rfl rfl (V_fieldA rfl rfl fo_82_4) ?_
      refine GT_st rfl rfl rfl rfl (V_load rfl rfl ag_2 (CellAt.item rfl)) ?_
      refine GT_st rfl rfl rfl rfl (V_add rfl rfl rfl (wrap_i64 (by omega))) ?_
      refine GT_st rfl rfl rfl rfl (V_build (vs := [_, _, _, _, _]) rfl rfl zc_85 pl_85 sa_85 rfl) ?_
      refine GT_st rfl rfl rfl rfl (V_build (vs := [_, _, _, _, _]) rfl rfl zc_191 pl_191 sa_191 rfl) ?_
      refine GT_store (vs := [_, _, _, _, _]) (l' := [_, _, _, _, _]) rfl rfl rfl rfl rfl rfl rfl sz_191 rfl rfl (Nat.le_of_ble_eq_true rfl) rfl (GR_nil) ?_
      refine GT_nil ?_
      refine GE_ret Tryz.func198 ⟨_, rfl, fun w m => run_loadVar_agg (vs := [_, _, _, _, _]) ag_191 sz_191 rfl (fun j v hj => CellsAt.item rfl j v hj w m)⟩ (fun w hw => ⟨?_, hw.nil⟩)
      simp only [hangB, eBox, e1, e2]
    · skip
      refine GE_seq ?_
      refine GE_slots (L' := [(2, _), (3, _), (4, _), (5, _), (6, _), (20, _)]) ⟨rfl, rfl, rfl, rfl, rfl, rfl, trivial⟩ ?_
      refine GE_plain (.st 0 (.st 1 .nil)) rfl ?_
      refine GT_st rfl rfl rfl rfl (V_eql rfl rfl rfl) ?_
      refine GT_st rfl rfl rfl rfl (V_assign rfl rfl) ?_
      refine GT_nil ?_
      first | refine GE_condNot rfl (fun q3 => ?_) (fun q3 => ?_) | refine GE_cond rfl (fun q3 => ?_) (fun q3 => ?_) | refine GE_condNotB rfl (fun q3 => ?_) (fun q3 => ?_) | refine GE_condB rfl (fun q3 => ?_) (fun q3 => ?_)
      · have e1 : hgX b p = b.x0 - p.wide := (by rw [hgX, if_neg q1, if_pos q3]); have e2 : hgY b p = b.y0 + p.off := (by rw [hgY, if_neg q2, if_neg (by omega)])
        refine GE_slots (L' := [(2, _), (3, _), (4, _), (6, _)]) ⟨rfl, rfl, rfl, rfl, trivial⟩ ?_
        refine GE_plain (.st 0 (.st 1 (.st 2 (.st 3 (.st 4 (.st 5 (.st 6 .nil))))))) rfl ?_
        first | refine GT_st rfl rfl rfl rfl (V_field rfl rfl fo_191_0) ?_ | refine GT_st rfl rfl rfl rfl (V_fieldA rfl rfl fo_191_0) ?_
        first | refine GT_st rfl rfl rfl rfl (V_field rfl rfl fo_85_0) ?_ | refine GT_st rfl rfl rfl rfl (V_fieldA rfl rfl fo_85_0) ?_
        refine GT_st rfl rfl rfl rfl (V_load rfl rfl ag_2 (CellAt.item rfl)) ?_
        first | refine GT_st rfl rfl rfl rfl (V_field rfl rfl fo_82_3) ?_ | refine GT_st rfl rfl rfl rfl (V_fieldA rfl rfl fo_82_3) ?_
        refine GT_st rfl rfl rfl rfl (V_load rfl rfl ag_2 (CellAt.item rfl)) ?_
        refine GT_st rfl rfl rfl rfl (V_sub rfl rfl rfl (wrap_i64 (by omega))) ?_
        refine GT_st rfl rfl rfl rfl (V_assign rfl rfl) ?_
        refine GT_nil ?_
        refine GE_inBlock ?_
        refine GE_seq ?_
        refine GE_slots (L' := [(3, _), (4, _), (5, _), (6, _)]) ⟨rfl, rfl, rfl, rfl, trivial⟩ ?_
        refine GE_plain (.st 0 (.st 1 (.st 2 (.st 3 (.st 4 (.st 5 (.st 6 (.st 7 (.st 8 (.st 9 (.st 10 (.st 11 (.ld 12 [] .nil))))))))))))) rfl ?_
        refine GT_st rfl rfl rfl rfl (V_move rfl rfl) ?_
        refine GT_st rfl rfl rfl rfl (V_move rfl rfl) ?_
        refine GT_st rfl rfl rfl rfl (V_move rfl rfl) ?_
        first | refine GT_st rfl rfl rfl rfl (V_field rfl rfl fo_82_3) ?_ | refine GT_st rfl rfl rfl rfl (V_fieldA rfl rfl fo_82_3) ?_
        refine GT_st rfl rfl rfl rfl (V_load rfl rfl ag_2 (CellAt.item rfl)) ?_
        refine GT_st rfl rfl rfl rfl (V_add rfl rfl rfl (wrap_i64 (by omega))) ?_
        refine GT_st rfl rfl rfl rfl (V_move rfl rfl) ?_
        first | refine GT_st rfl rfl rfl rfl (V_field rfl rfl fo_82_4) ?_ | refine GT_st rfl rfl rfl rfl (V_fieldA rfl rfl fo_82_4) ?_
        refine GT_st rfl rfl rfl rfl (V_load rfl rfl ag_2 (CellAt.item rfl)) ?_
        refine GT_st rfl rfl rfl rfl (V_add rfl rfl rfl (wrap_i64 (by omega))) ?_
        refine GT_st rfl rfl rfl rfl (V_build (vs := [_, _, _, _, _]) rfl rfl zc_85 pl_85 sa_85 rfl) ?_
        refine GT_st rfl rfl rfl rfl (V_build (vs := [_, _, _, _, _]) rfl rfl zc_191 pl_191 sa_191 rfl) ?_
        refine GT_store (vs := [_, _, _, _, _]) (l' := [_, _, _, _, _]) rfl rfl rfl rfl rfl rfl rfl sz_191 rfl rfl (Nat.le_of_ble_eq_true rfl) rfl (GR_nil) ?_
        refine GT_nil ?_
        refine GE_ret Tryz.func198 ⟨_, rfl, fun w m => run_loadVar_agg (vs := [_, _, _, _, _]) ag_191 sz_191 rfl (fun j v hj => CellsAt.item rfl j v hj w m)⟩ (fun w hw => ⟨?_, hw.nil⟩)
        simp only [hangB, eBox, e1, e2]
      · skip
        refine GE_seq ?_
        refine GE_plain (.st 0 (.st 1 .nil)) rfl ?_
        refine GT_st rfl rfl rfl rfl (V_eql rfl rfl rfl) ?_
        refine GT_st rfl rfl rfl rfl (V_assign rfl rfl) ?_
        refine GT_nil ?_
        first | refine GE_condNot rfl (fun q4 => ?_) (fun q4 => ?_) | refine GE_cond rfl (fun q4 => ?_) (fun q4 => ?_) | refine GE_condNotB rfl (fun q4 => ?_) (fun q4 => ?_) | refine GE_condB rfl (fun q4 => ?_) (fun q4 => ?_)
        · have e1 : hgX b p = b.x0 + p.off := (by rw [hgX, if_neg q1, if_neg q3]); have e2 : hgY b p = b.y0 - p.high := (by rw [hgY, if_neg q2, if_pos q4])
          refine GE_slots (L' := [(2, _), (3, _), (4, _), (5, _)]) ⟨rfl, rfl, rfl, rfl, trivial⟩ ?_
          refine GE_plain (.st 0 (.st 1 (.st 2 (.st 3 (.st 4 (.st 5 (.st 6 .nil))))))) rfl ?_
          first | refine GT_st rfl rfl rfl rfl (V_field rfl rfl fo_191_0) ?_ | refine GT_st rfl rfl rfl rfl (V_fieldA rfl rfl fo_191_0) ?_
          first | refine GT_st rfl rfl rfl rfl (V_field rfl rfl fo_85_1) ?_ | refine GT_st rfl rfl rfl rfl (V_fieldA rfl rfl fo_85_1) ?_
          refine GT_st rfl rfl rfl rfl (V_load rfl rfl ag_2 (CellAt.item rfl)) ?_
          first | refine GT_st rfl rfl rfl rfl (V_field rfl rfl fo_82_4) ?_ | refine GT_st rfl rfl rfl rfl (V_fieldA rfl rfl fo_82_4) ?_
          refine GT_st rfl rfl rfl rfl (V_load rfl rfl ag_2 (CellAt.item rfl)) ?_
          refine GT_st rfl rfl rfl rfl (V_sub rfl rfl rfl (wrap_i64 (by omega))) ?_
          refine GT_st rfl rfl rfl rfl (V_assign rfl rfl) ?_
          refine GT_nil ?_
          refine GE_inBlock ?_
          refine GE_seq ?_
          refine GE_slots (L' := [(3, _), (4, _), (5, _), (6, _)]) ⟨rfl, rfl, rfl, rfl, trivial⟩ ?_
          refine GE_plain (.st 0 (.st 1 (.st 2 (.st 3 (.st 4 (.st 5 (.st 6 (.st 7 (.st 8 (.st 9 (.st 10 (.st 11 (.ld 12 [] .nil))))))))))))) rfl ?_
          refine GT_st rfl rfl rfl rfl (V_move rfl rfl) ?_
          refine GT_st rfl rfl rfl rfl (V_move rfl rfl) ?_
          refine GT_st rfl rfl rfl rfl (V_move rfl rfl) ?_
          first | refine GT_st rfl rfl rfl rfl (V_field rfl rfl fo_82_3) ?_ | refine GT_st rfl rfl rfl rfl (V_fieldA rfl rfl fo_82_3) ?_
          refine GT_st rfl rfl rfl rfl (V_load rfl rfl ag_2 (CellAt.item rfl)) ?_
          refine GT_st rfl rfl rfl rfl (V_add rfl rfl rfl (wrap_i64 (by omega))) ?_
          refine GT_st rfl rfl rfl rfl (V_move rfl rfl) ?_
          first | refine GT_st rfl rfl rfl rfl (V_field rfl rfl fo_82_4) ?_ | refine GT_st rfl rfl rfl rfl (V_fieldA rfl rfl fo_82_4) ?_
          refine GT_st rfl rfl rfl rfl (V_load rfl rfl ag_2 (CellAt.item rfl)) ?_
          refine GT_st rfl rfl rfl rfl (V_add rfl rfl rfl (wrap_i64 (by omega))) ?_
          refine GT_st rfl rfl rfl rfl (V_build (vs := [_, _, _, _, _]) rfl rfl zc_85 pl_85 sa_85 rfl) ?_
          refine GT_st rfl rfl rfl rfl (V_build (vs := [_, _, _, _, _]) rfl rfl zc_191 pl_191 sa_191 rfl) ?_
          refine GT_store (vs := [_, _, _, _, _]) (l' := [_, _, _, _, _]) rfl rfl rfl rfl rfl rfl rfl sz_191 rfl rfl (Nat.le_of_ble_eq_true rfl) rfl (GR_nil) ?_
          refine GT_nil ?_
          refine GE_ret Tryz.func198 ⟨_, rfl, fun w m => run_loadVar_agg (vs := [_, _, _, _, _]) ag_191 sz_191 rfl (fun j v hj => CellsAt.item rfl j v hj w m)⟩ (fun w hw => ⟨?_, hw.nil⟩)
          simp only [hangB, eBox, e1, e2]
        · exact absurd h5 (by omega)
theorem C_flipX {a : Int} (h1 : bdB 100000000 b) (h2 : -100000000 ≤ a ∧ a ≤ 100000000) : Con0 Tryz.prog 199 [.agg (eBox b).toArray, I a] w (.agg (eBox (flipX b a)).toArray) := by
  obtain ⟨a1, a2, a3, a4⟩ := h1
  refine Ret_of (vs := [_, _]) hm none' Tryz.func199 rfl Tryz.ntmps199 rfl ?_
  dsimp only [slotsOf]
  refine GE_seq ?_
  refine GE_plain (.ld 0 [] (.ld 1 [] .nil)) rfl ?_
  refine GT_box (z := [_, _, _, _, _]) rfl rfl rfl rfl rfl rfl rfl (fun _ => GR_nil) (fun b2 => ?_)
  refine GT_alloc rfl rfl rfl rfl rfl zc_191 (fun _ => GR_nil) (fun b4 => ?_)
  refine GT_nil ?_
  refine GE_seq ?_
  refine GE_plain (.st 0 (.st 1 (.st 2 (.st 3 (.st 4 (.st 5 (.st 6 (.st 7 (.st 8 (.st 9 (.st 10 (.st 11 (.st 12 (.st 13 (.ld 14 [] (.st 15 (.st 16 (.ld 17 [] .nil)))))))))))))))))) rfl ?_
  refine GT_st rfl rfl rfl rfl (V_move rfl rfl) ?_
  refine GT_st rfl rfl rfl rfl (V_mul rfl rfl rfl (wrap_i64 (by omega))) ?_
  first | refine GT_st rfl rfl rfl rfl (V_field rfl rfl fo_191_0) ?_ | refine GT_st rfl rfl rfl rfl (V_fieldA rfl rfl fo_191_0) ?_
  first | refine GT_st rfl rfl rfl rfl (V_field rfl rfl fo_85_2) ?_ | refine GT_st rfl rfl rfl rfl (V_fieldA rfl rfl fo_85_2) ?_
  refine GT_st rfl rfl rfl rfl (V_load rfl rfl ag_2 (CellAt.item rfl)) ?_
  refine GT_st rfl rfl rfl rfl (V_sub rfl rfl rfl (wrap_i64 (by omega))) ?_
  refine GT_st rfl rfl rfl rfl (V_move rfl rfl) ?_
  refine GT_st rfl rfl rfl rfl (V_mul rfl rfl rfl (wrap_i64 (by omega))) ?_
  first | refine GT_st rfl rfl rfl rfl (V_field rfl rfl fo_191_0) ?_ | refine GT_st rfl rfl rfl rfl (V_fieldA rfl rfl fo_191_0) ?_
  first | refine GT_st rfl rfl rfl rfl (V_field rfl rfl fo_85_0) ?_ | refine GT_st rfl rfl rfl rfl (V_fieldA rfl rfl fo_85_0) ?_
  refine GT_st rfl rfl rfl rfl (V_load rfl rfl ag_2 (CellAt.item rfl)) ?_
  refine GT_st rfl rfl rfl rfl (V_sub rfl rfl rfl (wrap_i64 (by omega))) ?_
  first | refine GT_st rfl rfl rfl rfl (V_field rfl rfl fo_191_0) ?_ | refine GT_st rfl rfl rfl rfl (V_fieldA rfl rfl fo_191_0) ?_
  first | refine GT_st rfl rfl rfl rfl (V_field rfl rfl fo_85_0) ?_ | refine GT_st rfl rfl rfl rfl (V_fieldA rfl rfl fo_85_0) ?_
  refine GT_store (vs := [_]) (l' := [_, _, _, _, _]) rfl rfl rfl rfl rfl rfl rfl sz_2 rfl rfl (Nat.le_of_ble_eq_true rfl) rfl (GR_nil) ?_
  first | refine GT_st rfl rfl rfl rfl (V_field rfl rfl fo_191_0) ?_ | refine GT_st rfl rfl rfl rfl (V_fieldA rfl rfl fo_191_0) ?_
  first | refine GT_st rfl rfl rfl rfl (V_field rfl rfl fo_85_2) ?_ | refine GT_st rfl rfl rfl rfl (V_fieldA rfl rfl fo_85_2) ?_
  refine GT_store (vs := [_]) (l' := [_, _, _, _, _]) rfl rfl rfl rfl rfl rfl rfl sz_2 rfl rfl (Nat.le_of_ble_eq_true rfl) rfl (GR_nil) ?_
  refine GT_nil ?_
  refine GE_seq ?_
  refine GE_slots (L' := [(2, _), (4, _)]) ⟨rfl, rfl, trivial⟩ ?_
  refine GE_plain (.st 0 (.ld 1 [] .nil)) rfl ?_
  refine GT_st rfl rfl rfl rfl (V_loadN (vs := [_, _, _, _, _]) rfl rfl ag_191 sz_191 rfl (CellsAt.item rfl)) ?_
  refine GT_store (vs := [_, _, _, _, _]) (l' := [_, _, _, _, _]) rfl rfl rfl rfl rfl rfl rfl sz_191 rfl rfl (Nat.le_of_ble_eq_true rfl) rfl (GR_nil) ?_
  refine GT_nil ?_
  refine GE_ret Tryz.func199 ⟨_, rfl, fun w m => run_loadVar_agg (vs := [_, _, _, _, _]) ag_191 sz_191 rfl (fun j v hj => CellsAt.item rfl j v hj w m)⟩ (fun w hw => ⟨?_, hw.nil⟩)
  rfl
theorem C_flipY {a : Int} (h1 : bdB 100000000 b) (h2 : -100000000 ≤ a ∧ a ≤ 100000000) : Con0 Tryz.prog 200 [.agg (eBox b).toArray, I a] w (.agg (eBox (flipY b a)).toArray) := by
  obtain ⟨a1, a2, a3, a4⟩ := h1
  refine Ret_of (vs := [_, _]) hm none' Tryz.func200 rfl Tryz.ntmps200 rfl ?_
  dsimp only [slotsOf]
  refine GE_seq ?_
  refine GE_plain (.ld 0 [] (.ld 1 [] .nil)) rfl ?_
  refine GT_box (z := [_, _, _, _, _]) rfl rfl rfl rfl rfl rfl rfl (fun _ => GR_nil) (fun b2 => ?_)
  refine GT_alloc rfl rfl rfl rfl rfl zc_191 (fun _ => GR_nil) (fun b4 => ?_)
  refine GT_nil ?_
  refine GE_seq ?_
  refine GE_plain (.st 0 (.st 1 (.st 2 (.st 3 (.st 4 (.st 5 (.st 6 (.st 7 (.st 8 (.st 9 (.st 10 (.st 11 (.st 12 (.st 13 (.ld 14 [] (.st 15 (.st 16 (.ld 17 [] .nil)))))))))))))))))) rfl ?_
  refine GT_st rfl rfl rfl rfl (V_move rfl rfl) ?_
  refine GT_st rfl rfl rfl rfl (V_mul rfl rfl rfl (wrap_i64 (by omega))) ?_
  first | refine GT_st rfl rfl rfl rfl (V_field rfl rfl fo_191_0) ?_ | refine GT_st rfl rfl rfl rfl (V_fieldA rfl rfl fo_191_0) ?_
  first | refine GT_st rfl rfl rfl rfl (V_field rfl rfl fo_85_3) ?_ | refine GT_st rfl rfl rfl rfl (V_fieldA rfl rfl fo_85_3) ?_
  refine GT_st rfl rfl rfl rfl (V_load rfl rfl ag_2 (CellAt.item rfl)) ?_
  refine GT_st rfl rfl rfl rfl (V_sub rfl rfl rfl (wrap_i64 (by omega))) ?_
  refine GT_st rfl rfl rfl rfl (V_move rfl rfl) ?_
  refine GT_st rfl rfl rfl rfl (V_mul rfl rfl rfl (wrap_i64 (by omega))) ?_
  first | refine GT_st rfl rfl rfl rfl (V_field rfl rfl fo_191_0) ?_ | refine GT_st rfl rfl rfl rfl (V_fieldA rfl rfl fo_191_0) ?_
  first | refine GT_st rfl rfl rfl rfl (V_field rfl rfl fo_85_1) ?_ | refine GT_st rfl rfl rfl rfl (V_fieldA rfl rfl fo_85_1) ?_
  refine GT_st rfl rfl rfl rfl (V_load rfl rfl ag_2 (CellAt.item rfl)) ?_
  refine GT_st rfl rfl rfl rfl (V_sub rfl rfl rfl (wrap_i64 (by omega))) ?_
  first | refine GT_st rfl rfl rfl rfl (V_field rfl rfl fo_191_0) ?_ | refine GT_st rfl rfl rfl rfl (V_fieldA rfl rfl fo_191_0) ?_
  first | refine GT_st rfl rfl rfl rfl (V_field rfl rfl fo_85_1) ?_ | refine GT_st rfl rfl rfl rfl (V_fieldA rfl rfl fo_85_1) ?_
  refine GT_store (vs := [_]) (l' := [_, _, _, _, _]) rfl rfl rfl rfl rfl rfl rfl sz_2 rfl rfl (Nat.le_of_ble_eq_true rfl) rfl (GR_nil) ?_
  first | refine GT_st rfl rfl rfl rfl (V_field rfl rfl fo_191_0) ?_ | refine GT_st rfl rfl rfl rfl (V_fieldA rfl rfl fo_191_0) ?_
  first | refine GT_st rfl rfl rfl rfl (V_field rfl rfl fo_85_3) ?_ | refine GT_st rfl rfl rfl rfl (V_fieldA rfl rfl fo_85_3) ?_
  refine GT_store (vs := [_]) (l' := [_, _, _, _, _]) rfl rfl rfl rfl rfl rfl rfl sz_2 rfl rfl (Nat.le_of_ble_eq_true rfl) rfl (GR_nil) ?_
  refine GT_nil ?_
  refine GE_seq ?_
  refine GE_slots (L' := [(2, _), (4, _)]) ⟨rfl, rfl, trivial⟩ ?_
  refine GE_plain (.st 0 (.ld 1 [] .nil)) rfl ?_
  refine GT_st rfl rfl rfl rfl (V_loadN (vs := [_, _, _, _, _]) rfl rfl ag_191 sz_191 rfl (CellsAt.item rfl)) ?_
  refine GT_store (vs := [_, _, _, _, _]) (l' := [_, _, _, _, _]) rfl rfl rfl rfl rfl rfl rfl sz_191 rfl rfl (Nat.le_of_ble_eq_true rfl) rfl (GR_nil) ?_
  refine GT_nil ?_
  refine GE_ret Tryz.func200 ⟨_, rfl, fun w m => run_loadVar_agg (vs := [_, _, _, _, _]) ag_191 sz_191 rfl (fun j v hj => CellsAt.item rfl j v hj w m)⟩ (fun w hw => ⟨?_, hw.nil⟩)
  rfl
set_option maxRecDepth 20000 in
set_option maxHeartbeats 1000000 in
theorem C_over {e : Int} (h1 : bdB 100000000 b) (h2 : bdB 100000000 c) : Con0 Tryz.prog 137 [.agg (eBox b).toArray, .agg (eBox c).toArray, I e] w (.agg (eBox (overB b c e)).toArray) := by
  have h2' := h2
  obtain ⟨c1, c2, c3, c4⟩ := h2'
  refine Ret_of (vs := [_, _, _]) hm none' Tryz.func137 rfl Tryz.ntmps137 rfl ?_
  dsimp only [slotsOf]
  refine GE_seq ?_
  refine GE_plain (.ld 0 [] (.ld 1 [] (.ld 2 [] .nil))) rfl ?_
  refine GT_box (z := [_, _, _, _, _]) rfl rfl rfl rfl rfl rfl rfl (fun _ => GR_nil) (fun b3 => ?_)
  refine GT_box (z := [_, _, _, _, _]) rfl rfl rfl rfl rfl rfl rfl (fun _ => GR_nil) (fun b4 => ?_)
  refine GT_alloc rfl rfl rfl rfl rfl zc_191 (fun _ => GR_nil) (fun b6 => ?_)
  refine GT_nil ?_
  refine GE_seq ?_
  refine GE_drawn (.st 0 (.st 1 (.st 2 (.st 3 (.st 4 (.st 5 (.st 6 .nil))))))) [] (by decide +kernel) ?_
  refine GT_st rfl rfl rfl rfl (V_loadN (vs := [_, _, _, _, _]) rfl rfl ag_191 sz_191 rfl (CellsAt.item rfl)) ?_
  refine GT_st rfl rfl rfl rfl (V_makeFunc rfl rfl rfl) ?_
  first | refine GT_st rfl rfl rfl rfl (V_field rfl rfl fo_191_0) ?_ | refine GT_st rfl rfl rfl rfl (V_fieldA rfl rfl fo_191_0) ?_
  first | refine GT_st rfl rfl rfl rfl (V_field rfl rfl fo_85_2) ?_ | refine GT_st rfl rfl rfl rfl (V_fieldA rfl rfl fo_85_2) ?_
  refine GT_st rfl rfl rfl rfl (V_load rfl rfl ag_2 (CellAt.item rfl)) ?_
  refine GT_st rfl rfl rfl rfl (V_assign rfl rfl) ?_
  refine GT_st rfl rfl rfl rfl (V_assign rfl rfl) ?_
  refine GT_nil ?_
  refine GE_seq ?_
  refine GE_seq ?_
  refine GE_slots (L' := [(2, _), (3, _), (4, _), (6, _), (7, _), (8, _)]) ⟨rfl, rfl, rfl, rfl, rfl, rfl, trivial⟩ ?_
  refine GE_plain (.st 0 .nil) rfl ?_
  refine GT_st rfl rfl rfl rfl (V_move rfl rfl) ?_
  refine GT_nil ?_
  refine GE_block ?_
  refine GE_seq ?_
  refine GE_plain (.st 0 (.st 1 .nil)) rfl ?_
  refine GT_st rfl rfl rfl rfl (V_eql rfl rfl rfl) ?_
  refine GT_st rfl rfl rfl rfl (V_assign rfl rfl) ?_
  refine GT_nil ?_
  first | refine GE_condNot rfl (fun q1 => ?_) (fun q1 => ?_) | refine GE_cond rfl (fun q1 => ?_) (fun q1 => ?_) | refine GE_condNotB rfl (fun q1 => ?_) (fun q1 => ?_) | refine GE_condB rfl (fun q1 => ?_) (fun q1 => ?_)
  · have em : mirB b c e = flipY b c.y1 := (by rw [mirB, if_pos q1]); have hR := rn_200; have hF := fun w : World => C_flipY (w := w) h1 c4
    refine GE_slots (L' := [(3, _), (4, _), (6, _)]) ⟨rfl, rfl, rfl, trivial⟩ ?_
    refine GE_drawn (.st 0 (.st 1 (.st 2 (.st 3 (.st 4 (.st 5 (.st 6 .nil))))))) [] (by decide +kernel) ?_
    refine GT_st rfl rfl rfl rfl (V_loadN (vs := [_, _, _, _, _]) rfl rfl ag_191 sz_191 rfl (CellsAt.item rfl)) ?_
    refine GT_st rfl rfl rfl rfl (V_makeFunc rfl rfl rfl) ?_
    first | refine GT_st rfl rfl rfl rfl (V_field rfl rfl fo_191_0) ?_ | refine GT_st rfl rfl rfl rfl (V_fieldA rfl rfl fo_191_0) ?_
    first | refine GT_st rfl rfl rfl rfl (V_field rfl rfl fo_85_3) ?_ | refine GT_st rfl rfl rfl rfl (V_fieldA rfl rfl fo_85_3) ?_
    refine GT_st rfl rfl rfl rfl (V_load rfl rfl ag_2 (CellAt.item rfl)) ?_
    refine GT_st rfl rfl rfl rfl (V_assign rfl rfl) ?_
    refine GT_st rfl rfl rfl rfl (V_assign rfl rfl) ?_
    refine GT_nil ?_
    refine GE_inBlock ?_
    refine GE_seq ?_
    refine GE_slots (L' := [(3, _), (6, _), (7, _), (8, _)]) ⟨rfl, rfl, rfl, rfl, trivial⟩ ?_
    refine GE_plain (.st 0 (.st 1 (.ld 2 [] (.ld 3 [] (.ld 4 [] .nil))))) rfl ?_
    refine GT_st rfl rfl rfl rfl (V_move rfl rfl) ?_
    refine GT_st rfl rfl rfl rfl (V_move rfl rfl) ?_
    refine GT_call0 rfl rfl rfl rfl rfl rfl rfl rfl hR (fun w hw => hF w) (GR_nil) ?_
    refine GT_alloc rfl rfl rfl rfl rfl zc_191 (fun _ => GR_nil) (fun b9 => ?_)
    refine GT_store (vs := [_, _, _, _, _]) (l' := [_, _, _, _, _]) rfl rfl rfl rfl rfl rfl rfl sz_191 rfl rfl (Nat.le_of_ble_eq_true rfl) rfl (GR_nil) ?_
    refine GT_nil ?_
    refine GE_seq ?_
    refine GE_slots (L' := [(3, _), (6, _), (9, _)]) ⟨rfl, rfl, rfl, trivial⟩ ?_
    refine GE_plain (.st 0 (.st 1 (.st 2 (.st 3 (.st 4 (.st 5 (.ld 6 [] .nil))))))) rfl ?_
    first | refine GT_st rfl rfl rfl rfl (V_field rfl rfl fo_191_0) ?_ | refine GT_st rfl rfl rfl rfl (V_fieldA rfl rfl fo_191_0) ?_
    first | refine GT_st rfl rfl rfl rfl (V_field rfl rfl fo_85_4) ?_ | refine GT_st rfl rfl rfl rfl (V_fieldA rfl rfl fo_85_4) ?_
    refine GT_st rfl rfl rfl rfl (V_load rfl rfl ag_4 (CellAt.item rfl)) ?_
    first | refine GT_st rfl rfl rfl rfl (V_not rfl rfl) ?_ | refine GT_st rfl rfl rfl rfl (V_notB rfl rfl) ?_
    first | refine GT_st rfl rfl rfl rfl (V_field rfl rfl fo_191_0) ?_ | refine GT_st rfl rfl rfl rfl (V_fieldA rfl rfl fo_191_0) ?_
    first | refine GT_st rfl rfl rfl rfl (V_field rfl rfl fo_85_4) ?_ | refine GT_st rfl rfl rfl rfl (V_fieldA rfl rfl fo_85_4) ?_
    refine GT_store (vs := [_]) (l' := [_, _, _, _, _]) rfl rfl rfl rfl rfl rfl rfl sz_4 rfl rfl (Nat.le_of_ble_eq_true rfl) rfl (GR_nil) ?_
    refine GT_nil ?_
    refine GE_seq ?_
    refine GE_slots (L' := [(6, _), (9, _)]) ⟨rfl, rfl, trivial⟩ ?_
    refine GE_plain (.st 0 (.ld 1 [] .nil)) rfl ?_
    refine GT_st rfl rfl rfl rfl (V_loadN (vs := [_, _, _, _, _]) rfl rfl ag_191 sz_191 rfl (CellsAt.item rfl)) ?_
    refine GT_store (vs := [_, _, _, _, _]) (l' := [_, _, _, _, _]) rfl rfl rfl rfl rfl rfl rfl sz_191 rfl rfl (Nat.le_of_ble_eq_true rfl) rfl (GR_nil) ?_
    refine GT_nil ?_
    refine GE_ret Tryz.func137 ⟨_, rfl, fun w m => run_loadVar_agg (vs := [_, _, _, _, _]) ag_191 sz_191 rfl (fun j v hj => CellsAt.item rfl j v hj w m)⟩ (fun w hw => ⟨?_, hw.nil⟩)
    simp only [overB, eBox, em, flipX, flipY]
  · skip
    refine GE_seq ?_
    refine GE_plain (.st 0 (.st 1 .nil)) rfl ?_
    refine GT_st rfl rfl rfl rfl (V_eql rfl rfl rfl) ?_
    refine GT_st rfl rfl rfl rfl (V_assign rfl rfl) ?_
    refine GT_nil ?_
    first | refine GE_condNot rfl (fun q2 => ?_) (fun q2 => ?_) | refine GE_cond rfl (fun q2 => ?_) (fun q2 => ?_) | refine GE_condNotB rfl (fun q2 => ?_) (fun q2 => ?_) | refine GE_condB rfl (fun q2 => ?_) (fun q2 => ?_)
    · have em : mirB b c e = flipX b c.x0 := (by rw [mirB, if_neg q1, if_pos q2]); have hR := rn_199; have hF := fun w : World => C_flipX (w := w) h1 c1
      refine GE_slots (L' := [(3, _), (4, _), (6, _), (7, _)]) ⟨rfl, rfl, rfl, rfl, trivial⟩ ?_
      refine GE_plain (.st 0 (.st 1 (.st 2 (.st 3 .nil)))) rfl ?_
      first | refine GT_st rfl rfl rfl rfl (V_field rfl rfl fo_191_0) ?_ | refine GT_st rfl rfl rfl rfl (V_fieldA rfl rfl fo_191_0) ?_
      first | refine GT_st rfl rfl rfl rfl (V_field rfl rfl fo_85_0) ?_ | refine GT_st rfl rfl rfl rfl (V_fieldA rfl rfl fo_85_0) ?_
      refine GT_st rfl rfl rfl rfl (V_load rfl rfl ag_2 (CellAt.item rfl)) ?_
      refine GT_st rfl rfl rfl rfl (V_assign rfl rfl) ?_
      refine GT_nil ?_
      refine GE_inBlock ?_
      refine GE_seq ?_
      refine GE_slots (L' := [(3, _), (6, _), (7, _), (8, _)]) ⟨rfl, rfl, rfl, rfl, trivial⟩ ?_
      refine GE_plain (.st 0 (.st 1 (.ld 2 [] (.ld 3 [] (.ld 4 [] .nil))))) rfl ?_
      refine GT_st rfl rfl rfl rfl (V_move rfl rfl) ?_
      refine GT_st rfl rfl rfl rfl (V_move rfl rfl) ?_
      refine GT_call0 rfl rfl rfl rfl rfl rfl rfl rfl hR (fun w hw => hF w) (GR_nil) ?_
      refine GT_alloc rfl rfl rfl rfl rfl zc_191 (fun _ => GR_nil) (fun b9 => ?_)
      refine GT_store (vs := [_, _, _, _, _]) (l' := [_, _, _, _, _]) rfl rfl rfl rfl rfl rfl rfl sz_191 rfl rfl (Nat.le_of_ble_eq_true rfl) rfl (GR_nil) ?_
      refine GT_nil ?_
      refine GE_seq ?_
      refine GE_slots (L' := [(3, _), (6, _), (9, _)]) ⟨rfl, rfl, rfl, trivial⟩ ?_
      refine GE_plain (.st 0 (.st 1 (.st 2 (.st 3 (.st 4 (.st 5 (.ld 6 [] .nil))))))) rfl ?_
      first | refine GT_st rfl rfl rfl rfl (V_field rfl rfl fo_191_0) ?_ | refine GT_st rfl rfl rfl rfl (V_fieldA rfl rfl fo_191_0) ?_
      first | refine GT_st rfl rfl rfl rfl (V_field rfl rfl fo_85_4) ?_ | refine GT_st rfl rfl rfl rfl (V_fieldA rfl rfl fo_85_4) ?_
      refine GT_st rfl rfl rfl rfl (V_load rfl rfl ag_4 (CellAt.item rfl)) ?_
      first | refine GT_st rfl rfl rfl rfl (V_not rfl rfl) ?_ | refine GT_st rfl rfl rfl rfl (V_notB rfl rfl) ?_
      first | refine GT_st rfl rfl rfl rfl (V_field rfl rfl fo_191_0) ?_ | refine GT_st rfl rfl rfl rfl (V_fieldA rfl rfl fo_191_0) ?_
      first | refine GT_st rfl rfl rfl rfl (V_field rfl rfl fo_85_4) ?_ | refine GT_st rfl rfl rfl rfl (V_fieldA rfl rfl fo_85_4) ?_
      refine GT_store (vs := [_]) (l' := [_, _, _, _, _]) rfl rfl rfl rfl rfl rfl rfl sz_4 rfl rfl (Nat.le_of_ble_eq_true rfl) rfl (GR_nil) ?_
      refine GT_nil ?_
      refine GE_seq ?_
      refine GE_slots (L' := [(6, _), (9, _)]) ⟨rfl, rfl, trivial⟩ ?_
      refine GE_plain (.st 0 (.ld 1 [] .nil)) rfl ?_
      refine GT_st rfl rfl rfl rfl (V_loadN (vs := [_, _, _, _, _]) rfl rfl ag_191 sz_191 rfl (CellsAt.item rfl)) ?_
      refine GT_store (vs := [_, _, _, _, _]) (l' := [_, _, _, _, _]) rfl rfl rfl rfl rfl rfl rfl sz_191 rfl rfl (Nat.le_of_ble_eq_true rfl) rfl (GR_nil) ?_
      refine GT_nil ?_
      refine GE_ret Tryz.func137 ⟨_, rfl, fun w m => run_loadVar_agg (vs := [_, _, _, _, _]) ag_191 sz_191 rfl (fun j v hj => CellsAt.item rfl j v hj w m)⟩ (fun w hw => ⟨?_, hw.nil⟩)
      simp only [overB, eBox, em, flipX, flipY]
    · skip
      refine GE_seq ?_
      refine GE_slots (L' := [(3, _), (4, _), (6, _), (7, _), (8, _), (15, _)]) ⟨rfl, rfl, rfl, rfl, rfl, rfl, trivial⟩ ?_
      refine GE_plain (.st 0 (.st 1 .nil)) rfl ?_
      refine GT_st rfl rfl rfl rfl (V_eql rfl rfl rfl) ?_
      refine GT_st rfl rfl rfl rfl (V_assign rfl rfl) ?_
      refine GT_nil ?_
      first | refine GE_condNot rfl (fun q3 => ?_) (fun q3 => ?_) | refine GE_cond rfl (fun q3 => ?_) (fun q3 => ?_) | refine GE_condNotB rfl (fun q3 => ?_) (fun q3 => ?_) | refine GE_condB rfl (fun q3 => ?_) (fun q3 => ?_)
      · have em : mirB b c e = flipY b c.y0 := (by rw [mirB, if_neg q1, if_neg q2, if_pos q3]); have hR := rn_200; have hF := fun w : World => C_flipY (w := w) h1 c2
        refine GE_slots (L' := [(3, _), (4, _), (6, _)]) ⟨rfl, rfl, rfl, trivial⟩ ?_
        refine GE_drawn (.st 0 (.st 1 (.st 2 (.st 3 (.st 4 (.st 5 (.st 6 .nil))))))) [] (by decide +kernel) ?_
        refine GT_st rfl rfl rfl rfl (V_loadN (vs := [_, _, _, _, _]) rfl rfl ag_191 sz_191 rfl (CellsAt.item rfl)) ?_
        refine GT_st rfl rfl rfl rfl (V_makeFunc rfl rfl rfl) ?_
        first | refine GT_st rfl rfl rfl rfl (V_field rfl rfl fo_191_0) ?_ | refine GT_st rfl rfl rfl rfl (V_fieldA rfl rfl fo_191_0) ?_
        first | refine GT_st rfl rfl rfl rfl (V_field rfl rfl fo_85_1) ?_ | refine GT_st rfl rfl rfl rfl (V_fieldA rfl rfl fo_85_1) ?_
        refine GT_st rfl rfl rfl rfl (V_load rfl rfl ag_2 (CellAt.item rfl)) ?_
        refine GT_st rfl rfl rfl rfl (V_assign rfl rfl) ?_
        refine GT_st rfl rfl rfl rfl (V_assign rfl rfl) ?_
        refine GT_nil ?_
        refine GE_inBlock ?_
        refine GE_seq ?_
        refine GE_slots (L' := [(3, _), (6, _), (7, _), (8, _)]) ⟨rfl, rfl, rfl, rfl, trivial⟩ ?_
        refine GE_plain (.st 0 (.st 1 (.ld 2 [] (.ld 3 [] (.ld 4 [] .nil))))) rfl ?_
        refine GT_st rfl rfl rfl rfl (V_move rfl rfl) ?_
        refine GT_st rfl rfl rfl rfl (V_move rfl rfl) ?_
        refine GT_call0 rfl rfl rfl rfl rfl rfl rfl rfl hR (fun w hw => hF w) (GR_nil) ?_
        refine GT_alloc rfl rfl rfl rfl rfl zc_191 (fun _ => GR_nil) (fun b9 => ?_)
        refine GT_store (vs := [_, _, _, _, _]) (l' := [_, _, _, _, _]) rfl rfl rfl rfl rfl rfl rfl sz_191 rfl rfl (Nat.le_of_ble_eq_true rfl) rfl (GR_nil) ?_
        refine GT_nil ?_
        refine GE_seq ?_
        refine GE_slots (L' := [(3, _), (6, _), (9, _)]) ⟨rfl, rfl, rfl, trivial⟩ ?_
        refine GE_plain (.st 0 (.st 1 (.st 2 (.st 3 (.st 4 (.st 5 (.ld 6 [] .nil))))))) rfl ?_
        first | refine GT_st rfl rfl rfl rfl (V_field rfl rfl fo_191_0) ?_ | refine GT_st rfl rfl rfl rfl (V_fieldA rfl rfl fo_191_0) ?_
        first | refine GT_st rfl rfl rfl rfl (V_field rfl rfl fo_85_4) ?_ | refine GT_st rfl rfl rfl rfl (V_fieldA rfl rfl fo_85_4) ?_
        refine GT_st rfl rfl rfl rfl (V_load rfl rfl ag_4 (CellAt.item rfl)) ?_
        first | refine GT_st rfl rfl rfl rfl (V_not rfl rfl) ?_ | refine GT_st rfl rfl rfl rfl (V_notB rfl rfl) ?_
        first | refine GT_st rfl rfl rfl rfl (V_field rfl rfl fo_191_0) ?_ | refine GT_st rfl rfl rfl rfl (V_fieldA rfl rfl fo_191_0) ?_
        first | refine GT_st rfl rfl rfl rfl (V_field rfl rfl fo_85_4) ?_ | refine GT_st rfl rfl rfl rfl (V_fieldA rfl rfl fo_85_4) ?_
        refine GT_store (vs := [_]) (l' := [_, _, _, _, _]) rfl rfl rfl rfl rfl rfl rfl sz_4 rfl rfl (Nat.le_of_ble_eq_true rfl) rfl (GR_nil) ?_
        refine GT_nil ?_
        refine GE_seq ?_
        refine GE_slots (L' := [(6, _), (9, _)]) ⟨rfl, rfl, trivial⟩ ?_
        refine GE_plain (.st 0 (.ld 1 [] .nil)) rfl ?_
        refine GT_st rfl rfl rfl rfl (V_loadN (vs := [_, _, _, _, _]) rfl rfl ag_191 sz_191 rfl (CellsAt.item rfl)) ?_
        refine GT_store (vs := [_, _, _, _, _]) (l' := [_, _, _, _, _]) rfl rfl rfl rfl rfl rfl rfl sz_191 rfl rfl (Nat.le_of_ble_eq_true rfl) rfl (GR_nil) ?_
        refine GT_nil ?_
        refine GE_ret Tryz.func137 ⟨_, rfl, fun w m => run_loadVar_agg (vs := [_, _, _, _, _]) ag_191 sz_191 rfl (fun j v hj => CellsAt.item rfl j v hj w m)⟩ (fun w hw => ⟨?_, hw.nil⟩)
        simp only [overB, eBox, em, flipX, flipY]
      · have em : mirB b c e = flipX b c.x1 := (by rw [mirB, if_neg q1, if_neg q2, if_neg q3]); have hR := rn_199; have hF := fun w : World => C_flipX (w := w) h1 c3
        refine GE_skip ?_
        refine GE_inBlock ?_
        refine GE_seq ?_
        refine GE_slots (L' := [(3, _), (6, _), (7, _), (8, _)]) ⟨rfl, rfl, rfl, rfl, trivial⟩ ?_
        refine GE_plain (.st 0 (.st 1 (.ld 2 [] (.ld 3 [] (.ld 4 [] .nil))))) rfl ?_
        refine GT_st rfl rfl rfl rfl (V_move rfl rfl) ?_
        refine GT_st rfl rfl rfl rfl (V_move rfl rfl) ?_
        refine GT_call0 rfl rfl rfl rfl rfl rfl rfl rfl hR (fun w hw => hF w) (GR_nil) ?_
        refine GT_alloc rfl rfl rfl rfl rfl zc_191 (fun _ => GR_nil) (fun b9 => ?_)
        refine GT_store (vs := [_, _, _, _, _]) (l' := [_, _, _, _, _]) rfl rfl rfl rfl rfl rfl rfl sz_191 rfl rfl (Nat.le_of_ble_eq_true rfl) rfl (GR_nil) ?_
        refine GT_nil ?_
        refine GE_seq ?_
        refine GE_slots (L' := [(3, _), (6, _), (9, _)]) ⟨rfl, rfl, rfl, trivial⟩ ?_
        refine GE_plain (.st 0 (.st 1 (.st 2 (.st 3 (.st 4 (.st 5 (.ld 6 [] .nil))))))) rfl ?_
        first | refine GT_st rfl rfl rfl rfl (V_field rfl rfl fo_191_0) ?_ | refine GT_st rfl rfl rfl rfl (V_fieldA rfl rfl fo_191_0) ?_
        first | refine GT_st rfl rfl rfl rfl (V_field rfl rfl fo_85_4) ?_ | refine GT_st rfl rfl rfl rfl (V_fieldA rfl rfl fo_85_4) ?_
        refine GT_st rfl rfl rfl rfl (V_load rfl rfl ag_4 (CellAt.item rfl)) ?_
        first | refine GT_st rfl rfl rfl rfl (V_not rfl rfl) ?_ | refine GT_st rfl rfl rfl rfl (V_notB rfl rfl) ?_
        first | refine GT_st rfl rfl rfl rfl (V_field rfl rfl fo_191_0) ?_ | refine GT_st rfl rfl rfl rfl (V_fieldA rfl rfl fo_191_0) ?_
        first | refine GT_st rfl rfl rfl rfl (V_field rfl rfl fo_85_4) ?_ | refine GT_st rfl rfl rfl rfl (V_fieldA rfl rfl fo_85_4) ?_
        refine GT_store (vs := [_]) (l' := [_, _, _, _, _]) rfl rfl rfl rfl rfl rfl rfl sz_4 rfl rfl (Nat.le_of_ble_eq_true rfl) rfl (GR_nil) ?_
        refine GT_nil ?_
        refine GE_seq ?_
        refine GE_slots (L' := [(6, _), (9, _)]) ⟨rfl, rfl, trivial⟩ ?_
        refine GE_plain (.st 0 (.ld 1 [] .nil)) rfl ?_
        refine GT_st rfl rfl rfl rfl (V_loadN (vs := [_, _, _, _, _]) rfl rfl ag_191 sz_191 rfl (CellsAt.item rfl)) ?_
        refine GT_store (vs := [_, _, _, _, _]) (l' := [_, _, _, _, _]) rfl rfl rfl rfl rfl rfl rfl sz_191 rfl rfl (Nat.le_of_ble_eq_true rfl) rfl (GR_nil) ?_
        refine GT_nil ?_
        refine GE_ret Tryz.func137 ⟨_, rfl, fun w m => run_loadVar_agg (vs := [_, _, _, _, _]) ag_191 sz_191 rfl (fun j v hj => CellsAt.item rfl j v hj w m)⟩ (fun w hw => ⟨?_, hw.nil⟩)
        simp only [overB, eBox, em, flipX, flipY]
end
end Go.Proofs.YtpbflnfcgcldkaaGreatDoor.Net
/- The flat net, walked. -/
namespace Go.Proofs.YtpbflnfcgcldkaaGreatDoor.Net
open Go.Sx Go.Proofs Go.RowKit
open Side (getD_memT sh_trans own_le)
theorem back_flat {u v : Value} : BackD Tryz.prog 196 (#[] ++ #[u, v]) :=
  BackD.rec (fn := Tryz.f196) ⟨Tryz.func196, rfl, rfl, rfl, rfl, rfl, rfl, rfl, rfl, ⟨20, #[], _, rfl, Tryz.underlying20⟩, rfl, rfl, rfl, rfl, by decide, rfl⟩ (show 2 ≤ 17 by decide)
section
variable {w : World} {A : Option Addr} {c : Nat} {l : List Pan}
set_option maxRecDepth 20000 in
set_option maxHeartbeats 1000000 in
theorem C_flat (hr : RdL w 5 ePan A l) (hN : NetOk l) : Con Tryz.prog 136 [.slice A l.length c] w (fun y : Option Addr × Nat × Items => Own 5 191 eBox (flat l) (.slice y.1 l.length y.2.1) y.2.2) (fun y => .tuple #[.slice y.1 l.length y.2.1, I 0]) (fun y => y.2.2) := by
  obtain ⟨n1, n2⟩ := hN.len
  refine Ret_of (vs := [_]) hm none' Tryz.func136 rfl Tryz.ntmps136 rfl ?_
  dsimp only [slotsOf]
  refine GE_seq ?_
  refine GE_plain (.ld 0 [] (.ld 1 [] .nil)) rfl ?_
  refine GT_alloc rfl rfl rfl rfl rfl zc_186 (fun _ => GR_nil) (fun b2 => ?_)
  refine GT_alloc rfl rfl rfl rfl rfl zc_27 (fun _ => GR_nil) (fun b3 => ?_)
  refine GT_nil ?_
  refine GE_seq ?_
  refine GE_defer rfl rfl rfl rfl rfl (V_makeFunc rfl rfl rfl) rfl rfl rfl rfl ?_
  refine GE_seq ?_
  refine GE_plain (.st 0 (.st 1 (.st 2 (.st 3 (.st 4 (.st 5 (.st 6 (.st 7 (.ld 8 [] .nil))))))))) rfl ?_
  refine GT_st rfl rfl rfl rfl (V_move rfl rfl) ?_
  refine GT_st rfl rfl rfl rfl (V_len rfl Tryz.underlying83 rfl) ?_
  refine GT_st rfl rfl rfl rfl (V_isT (V_gtr rfl rfl rfl) (by omega)) ?_
  refine GT_st rfl rfl rfl rfl (V_move rfl rfl) ?_
  refine GT_st_g rfl rfl rfl rfl rfl rfl rfl (V_move rfl rfl) ?_
  refine GT_st_g rfl rfl rfl rfl rfl rfl rfl (V_len rfl Tryz.underlying83 rfl) ?_
  refine GT_st_g rfl rfl rfl rfl rfl rfl rfl (V_isT (V_leq rfl rfl rfl) (by omega)) ?_
  refine GT_st rfl rfl rfl rfl (V_pick_t rfl rfl rfl) ?_
  refine GT_call0 rfl rfl rfl rfl rfl rfl rfl rfl rn_197 (fun w hw => C_must) (GR_nil) ?_
  refine GT_nil ?_
  refine GE_seq ?_
  refine GE_seq ?_
  refine GE_slots (L' := [(0, _), (2, _), (3, _)]) ⟨rfl, rfl, rfl, trivial⟩ ?_
  refine GE_plain (.st 0 (.st 1 (.st 2 .nil))) rfl ?_
  refine GT_st rfl rfl rfl rfl (V_move rfl rfl) ?_
  refine GT_st rfl rfl rfl rfl (V_len rfl Tryz.underlying83 rfl) ?_
  refine GT_st rfl rfl rfl rfl (V_move rfl rfl) ?_
  refine GT_nil ?_
  refine GE_block ?_
  refine GE_to (GE_loop (ι := Nat × (Option Addr × Nat × Items)) (fun z => l.length - z.1) (fun z => [(2, ptr b2 0), (3, ptr b3 0), (25, .slice A l.length c), (26, I l.length), (27, I z.1)]) (fun z => (b2, blk [.slice z.2.1 (flq l z.1).length z.2.2.1] 186) :: (b3, blk [I 0] 27) :: z.2.2.2) (fun z => z.1 ≤ l.length ∧ Own 5 191 eBox (flq l z.1) (.slice z.2.1 (flq l z.1).length z.2.2.1) z.2.2.2) ?_ (0, (none, 0, [])) ?_) ⟨rfl, rfl, rfl, rfl, rfl, trivial⟩ (HS.cons rfl (HS.cons rfl HS.nil))
  · rintro ⟨k, y⟩ ⟨hk, hO⟩ ih; dsimp only at hk hO ih ⊢
    refine GE_seq ?_
    refine GE_plain (.st 0 .nil) rfl ?_
    refine GT_st rfl rfl rfl rfl (V_lss rfl rfl rfl) ?_
    refine GT_nil ?_
    refine GE_seq ?_
    first | refine GE_condNot rfl (fun q1 => ?_) (fun q1 => ?_) | refine GE_cond rfl (fun q1 => ?_) (fun q1 => ?_) | refine GE_condNotB rfl (fun q1 => ?_) (fun q1 => ?_) | refine GE_condB rfl (fun q1 => ?_) (fun q1 => ?_)
    · have hkl : k < l.length := (by omega); have hsz := hN.sz _ (getD_memT hkl); have hfl := flq_len l k
      refine GE_skip ?_
      refine GE_seq ?_
      refine GE_block ?_
      refine GE_seq ?_
      refine GE_plain (.st 0 (.st 1 (.st 2 (.ld 3 [] (.st 4 (.ld 5 [] .nil)))))) rfl ?_
      refine GT_st rfl rfl rfl rfl (V_move rfl rfl) ?_
      refine GT_st rfl rfl rfl rfl (V_index rfl rfl rfl Tryz.underlying83 sz_82 (k := k) rfl hkl (hr.isSome hkl)) ?_
      refine GT_st rfl rfl rfl rfl (V_loadN (vs := [_, _, _, _, _]) rfl rfl ag_82 sz_82 rfl (show CellsAt _ _ _ (ePan (l.getD k default)) from hr.ats noM hkl)) ?_
      refine GT_alloc rfl rfl rfl rfl rfl zc_82 (fun _ => GR_nil) (fun b5 => ?_)
      refine GT_st rfl rfl rfl rfl (V_assign rfl rfl) ?_
      refine GT_store (vs := [_, _, _, _, _]) (l' := [_, _, _, _, _]) rfl rfl rfl rfl rfl rfl rfl sz_82 rfl rfl (Nat.le_of_ble_eq_true rfl) rfl (GR_nil) ?_
      refine GT_nil ?_
      refine GE_seq ?_
      refine GE_slots (L' := [(2, _), (3, _), (4, _), (5, _), (25, _), (26, _), (27, _)]) ⟨rfl, rfl, rfl, rfl, rfl, rfl, rfl, trivial⟩ ?_
      refine GE_plain (.st 0 (.st 1 (.ld 2 [] (.st 3 (.st 4 (.st 5 (.st 6 (.ld 7 [] (.st 8 (.st 9 (.ld 10 [] .nil))))))))))) rfl ?_
      first | refine GT_st rfl rfl rfl rfl (V_field rfl rfl fo_82_3) ?_ | refine GT_st rfl rfl rfl rfl (V_fieldA rfl rfl fo_82_3) ?_
      refine GT_st rfl rfl rfl rfl (V_load rfl rfl ag_2 (CellAt.item rfl)) ?_
      refine GT_call0 rfl rfl rfl rfl rfl rfl rfl rfl rn_144 (fun w hw => Slv.C_outS hsz.1) (GR_nil) ?_
      first | refine GT_st rfl rfl rfl rfl (V_not rfl rfl) ?_ | refine GT_st rfl rfl rfl rfl (V_notB rfl rfl) ?_
      refine GT_st rfl rfl rfl rfl (V_move rfl rfl) ?_
      first | refine GT_st_g rfl rfl rfl rfl rfl rfl rfl (V_field rfl rfl fo_82_4) ?_ | refine GT_st_g rfl rfl rfl rfl rfl rfl rfl (V_fieldA rfl rfl fo_82_4) ?_
      refine GT_st_g rfl rfl rfl rfl rfl rfl rfl (V_load rfl rfl ag_2 (CellAt.item rfl)) ?_
      refine GT_call0_g rfl rfl rfl rfl rfl rfl rfl rfl rfl rfl rfl rn_144 (fun w hw => Slv.C_outS hsz.2) (GR_nil) ?_
      first | refine GT_st_g rfl rfl rfl rfl rfl rfl rfl (V_not rfl rfl) ?_ | refine GT_st_g rfl rfl rfl rfl rfl rfl rfl (V_notB rfl rfl) ?_
      refine GT_st rfl rfl rfl rfl (V_pick_t rfl rfl rfl) ?_
      refine GT_call0 rfl rfl rfl rfl rfl rfl rfl rfl rn_197 (fun w hw => C_must) (GR_nil) ?_
      refine GT_nil ?_
      refine GE_seq ?_
      refine GE_seq ?_
      refine GE_slots (L' := [(2, _), (3, _), (4, _), (5, _), (25, _), (26, _), (27, _), (37, _), (38, _), (39, _), (40, _)]) ⟨rfl, rfl, rfl, rfl, rfl, rfl, rfl, rfl, rfl, rfl, rfl, trivial⟩ ?_
      refine GE_plain (.st 0 (.st 1 .nil)) rfl ?_
      refine GT_st rfl rfl rfl rfl (V_move rfl rfl) ?_
      refine GT_st rfl rfl rfl rfl (V_eql rfl rfl rfl) ?_
      refine GT_nil ?_
      first | refine GE_condNot rfl (fun q2 => ?_) (fun q2 => ?_) | refine GE_cond rfl (fun q2 => ?_) (fun q2 => ?_) | refine GE_condNotB rfl (fun q2 => ?_) (fun q2 => ?_) | refine GE_condB rfl (fun q2 => ?_) (fun q2 => ?_)
      · obtain rfl : k = 0 := (by omega); have hfi := hN.first; have hfk : flq l (0 + 1) = flq l 0 ++ [fst0 (l.getD 0 default)] := rfl
        refine GE_seq ?_
        refine GE_plain (.st 0 (.st 1 (.st 2 (.st 3 (.st 4 (.st 5 (.st 6 (.st 7 (.st 8 (.st 9 (.st 10 (.st 11 (.st 12 (.ld 13 [] .nil)))))))))))))) rfl ?_
        first | refine GT_st rfl rfl rfl rfl (V_field rfl rfl fo_82_0) ?_ | refine GT_st rfl rfl rfl rfl (V_fieldA rfl rfl fo_82_0) ?_
        refine GT_st rfl rfl rfl rfl (V_load rfl rfl ag_3 (CellAt.item rfl)) ?_
        refine GT_st rfl rfl rfl rfl (V_isT (V_eql rfl rfl rfl) hfi.1) ?_
        refine GT_st rfl rfl rfl rfl (V_move rfl rfl) ?_
        first | refine GT_st_g rfl rfl rfl rfl rfl rfl rfl (V_field rfl rfl fo_82_1) ?_ | refine GT_st_g rfl rfl rfl rfl rfl rfl rfl (V_fieldA rfl rfl fo_82_1) ?_
        refine GT_st_g rfl rfl rfl rfl rfl rfl rfl (V_load rfl rfl ag_3 (CellAt.item rfl)) ?_
        refine GT_st_g rfl rfl rfl rfl rfl rfl rfl (V_isT (V_eql rfl rfl rfl) hfi.2.1) ?_
        refine GT_st rfl rfl rfl rfl (V_pick_t rfl rfl rfl) ?_
        refine GT_st rfl rfl rfl rfl (V_move rfl rfl) ?_
        first | refine GT_st_g rfl rfl rfl rfl rfl rfl rfl (V_field rfl rfl fo_82_2) ?_ | refine GT_st_g rfl rfl rfl rfl rfl rfl rfl (V_fieldA rfl rfl fo_82_2) ?_
        refine GT_st_g rfl rfl rfl rfl rfl rfl rfl (V_load rfl rfl ag_2 (CellAt.item rfl)) ?_
        refine GT_st_g rfl rfl rfl rfl rfl rfl rfl (V_isT (V_eql rfl rfl rfl) hfi.2.2) ?_
        refine GT_st rfl rfl rfl rfl (V_pick_t rfl rfl rfl) ?_
        refine GT_call0 rfl rfl rfl rfl rfl rfl rfl rfl rn_197 (fun w hw => C_must) (GR_nil) ?_
        refine GT_nil ?_
        refine GE_seq ?_
        refine GE_slots (L' := [(2, _), (3, _), (5, _), (25, _), (26, _), (27, _), (37, _), (38, _), (39, _), (40, _), (49, _), (50, _), (51, _), (54, _), (55, _), (56, _)]) ⟨rfl, rfl, rfl, rfl, rfl, rfl, rfl, rfl, rfl, rfl, rfl, rfl, rfl, rfl, rfl, rfl, trivial⟩ ?_
        refine GE_plain (.st 0 (.st 1 (.st 2 (.st 3 (.st 4 (.st 5 (.st 6 (.ld 7 [] (.ld 8 [] (.ld 9 [] .nil)))))))))) rfl ?_
        refine GT_st rfl rfl rfl rfl (V_load rfl rfl ag_186 (CellAt.item rfl)) ?_
        first | refine GT_st rfl rfl rfl rfl (V_field rfl rfl fo_82_3) ?_ | refine GT_st rfl rfl rfl rfl (V_fieldA rfl rfl fo_82_3) ?_
        refine GT_st rfl rfl rfl rfl (V_load rfl rfl ag_2 (CellAt.item rfl)) ?_
        first | refine GT_st rfl rfl rfl rfl (V_field rfl rfl fo_82_4) ?_ | refine GT_st rfl rfl rfl rfl (V_fieldA rfl rfl fo_82_4) ?_
        refine GT_st rfl rfl rfl rfl (V_load rfl rfl ag_2 (CellAt.item rfl)) ?_
        refine GT_st rfl rfl rfl rfl (V_build (vs := [_, _, _, _, _]) rfl rfl zc_85 pl_85 sa_85 rfl) ?_
        refine GT_st rfl rfl rfl rfl (V_build (vs := [_, _, _, _, _]) rfl rfl zc_191 pl_191 sa_191 rfl) ?_
        refine GT_buildSlice (z := [_, _, _, _, _]) rfl rfl rfl rfl rfl Tryz.underlying186 zc_191 sz_191 (by decide) rfl rfl (fun _ => GR_nil) (fun b66 => ?_)
        refine GT_append (enc := eBox) (l := flq l 0) (m := [fst0 (l.getD 0 default)]) rfl rfl rfl rfl rfl rfl rfl hO (fun w m => RdL.own' m eBox_len) Tryz.underlying186 zc_191 sz_191 ⟨rfl, by decide⟩ by_191 ⟨by rw [hfl]; simp only [List.length_singleton]; omega, by rw [hfl]; simp only [List.length_singleton]; omega⟩ eBox_len eBox_one (fun _ _ _ _ => GR_nil) (fun A3 c3 I3 hO3 => ?_)
        refine GT_store (vs := [_]) (l' := [_]) rfl rfl rfl rfl rfl rfl rfl sz_186 rfl rfl (Nat.le_of_ble_eq_true rfl) rfl (GR_nil) ?_
        refine GT_nil ?_
        refine GE_exit rfl ?_
        refine GE_slots (L' := [(2, _), (3, _), (25, _), (26, _), (27, _), (37, _), (38, _), (39, _), (40, _), (49, _), (50, _), (51, _), (54, _), (55, _), (56, _)]) ⟨rfl, rfl, rfl, rfl, rfl, rfl, rfl, rfl, rfl, rfl, rfl, rfl, rfl, rfl, rfl, trivial⟩ ?_
        refine GE_plain (.st 0 (.ld 1 [] .nil)) rfl ?_
        refine GT_st rfl rfl rfl rfl (V_add rfl rfl rfl (wrap_i64 (by omega))) ?_
        refine GT_ldv rfl rfl rfl rfl rfl (V_move rfl rfl) (GR_nil) ?_
        refine GT_nil ?_
        first | exact GE_to (ih (k + 1, (A3, c3, I3)) ⟨by dsimp only; omega, by dsimp only; rw [hfk]; exact hO3⟩ (by dsimp only; omega)) ⟨rfl, rfl, rfl, rfl, rfl, trivial⟩ (HS.cons (by dsimp only; rw [hfk]) (HS.cons rfl HS.last)) | exact GE_to (ih (0 + 1, (A3, c3, I3)) ⟨by dsimp only; omega, by dsimp only; rw [hfk]; exact hO3⟩ (by dsimp only; omega)) ⟨rfl, rfl, rfl, rfl, rfl, trivial⟩ (HS.cons (by dsimp only; rw [hfk]) (HS.cons rfl HS.last))
      · have hk0 : 0 < k := (by omega); obtain ⟨⟨o1, o2⟩, o3, o4⟩ := hN.rest k hk0 hkl; have hto := hN.touch k hk0 hkl; have hol : (l.getD k default).on.toNat < (flq l k).length := (by omega); have hob := flq_bd hN k hk _ (getD_memT hol); have hob2 : bdB 100000000 ((flq l k).getD (l.getD k default).on.toNat default) := (by unfold bdB at hob ⊢; omega); have hfk : flq l (k + 1) = flq l k ++ [hangB ((flq l k).getD (l.getD k default).on.toNat default) (l.getD k default)] := (by rw [flq, if_neg (by omega)]); rw [flat_get l hk0 hkl, ← flq_get l hk (by omega)] at hto; have hhb := hang_bd hob hsz.1 hsz.2 o4; have hhb2 : bdB 100000000 (hangB ((flq l k).getD (l.getD k default).on.toNat default) (l.getD k default)) := (by unfold bdB at hhb ⊢; omega)
        refine GE_skip ?_
        refine GE_seq ?_
        refine GE_plain (.st 0 (.st 1 (.st 2 (.st 3 (.st 4 (.st 5 (.st 6 (.st 7 (.st 8 (.st 9 (.st 10 (.st 11 (.st 12 (.st 13 (.st 14 (.st 15 (.st 16 (.st 17 (.st 18 (.st 19 (.st 20 (.st 21 (.ld 22 [] (.st 23 (.st 24 (.ld 25 [] .nil)))))))))))))))))))))))))) rfl ?_
        first | refine GT_st rfl rfl rfl rfl (V_field rfl rfl fo_82_0) ?_ | refine GT_st rfl rfl rfl rfl (V_fieldA rfl rfl fo_82_0) ?_
        refine GT_st rfl rfl rfl rfl (V_load rfl rfl ag_3 (CellAt.item rfl)) ?_
        refine GT_st rfl rfl rfl rfl (V_isT (V_geq rfl rfl rfl) o1) ?_
        refine GT_st rfl rfl rfl rfl (V_move rfl rfl) ?_
        first | refine GT_st_g rfl rfl rfl rfl rfl rfl rfl (V_field rfl rfl fo_82_0) ?_ | refine GT_st_g rfl rfl rfl rfl rfl rfl rfl (V_fieldA rfl rfl fo_82_0) ?_
        refine GT_st_g rfl rfl rfl rfl rfl rfl rfl (V_load rfl rfl ag_3 (CellAt.item rfl)) ?_
        refine GT_st_g rfl rfl rfl rfl rfl rfl rfl (V_move rfl rfl) ?_
        refine GT_st_g rfl rfl rfl rfl rfl rfl rfl (V_isT (V_lss rfl rfl rfl) o2) ?_
        refine GT_st rfl rfl rfl rfl (V_pick_t rfl rfl rfl) ?_
        refine GT_st rfl rfl rfl rfl (V_move rfl rfl) ?_
        first | refine GT_st_g rfl rfl rfl rfl rfl rfl rfl (V_field rfl rfl fo_82_1) ?_ | refine GT_st_g rfl rfl rfl rfl rfl rfl rfl (V_fieldA rfl rfl fo_82_1) ?_
        refine GT_st_g rfl rfl rfl rfl rfl rfl rfl (V_load rfl rfl ag_3 (CellAt.item rfl)) ?_
        refine GT_st_g rfl rfl rfl rfl rfl rfl rfl (V_isT (V_geq rfl rfl rfl) o3.1) ?_
        refine GT_st rfl rfl rfl rfl (V_pick_t rfl rfl rfl) ?_
        refine GT_st rfl rfl rfl rfl (V_move rfl rfl) ?_
        first | refine GT_st_g rfl rfl rfl rfl rfl rfl rfl (V_field rfl rfl fo_82_1) ?_ | refine GT_st_g rfl rfl rfl rfl rfl rfl rfl (V_fieldA rfl rfl fo_82_1) ?_
        refine GT_st_g rfl rfl rfl rfl rfl rfl rfl (V_load rfl rfl ag_3 (CellAt.item rfl)) ?_
        refine GT_st_g rfl rfl rfl rfl rfl rfl rfl (V_isT (V_leq rfl rfl rfl) o3.2) ?_
        refine GT_st rfl rfl rfl rfl (V_pick_t rfl rfl rfl) ?_
        refine GT_st rfl rfl rfl rfl (V_move rfl rfl) ?_
        first | refine GT_st_g rfl rfl rfl rfl rfl rfl rfl (V_field rfl rfl fo_82_2) ?_ | refine GT_st_g rfl rfl rfl rfl rfl rfl rfl (V_fieldA rfl rfl fo_82_2) ?_
        refine GT_st_g rfl rfl rfl rfl rfl rfl rfl (V_load rfl rfl ag_2 (CellAt.item rfl)) ?_
        refine GT_call0_g rfl rfl rfl rfl rfl rfl rfl rfl rfl rfl rfl rn_144 (fun w hw => Slv.C_outS o4) (GR_nil) ?_
        first | refine GT_st_g rfl rfl rfl rfl rfl rfl rfl (V_not rfl rfl) ?_ | refine GT_st_g rfl rfl rfl rfl rfl rfl rfl (V_notB rfl rfl) ?_
        refine GT_st rfl rfl rfl rfl (V_pick_t rfl rfl rfl) ?_
        refine GT_call0 rfl rfl rfl rfl rfl rfl rfl rfl rn_197 (fun w hw => C_must) (GR_nil) ?_
        refine GT_nil ?_
        refine GE_cut (ι := Nat) (fun b6 => [(2, ptr b2 0), (3, ptr b3 0), (5, ptr b5 0), (6, ptr b6 0), (25, .slice A l.length c), (26, I l.length), (27, I k)]) (fun b6 => (b6, blk (eBox (hangB ((flq l k).getD (l.getD k default).on.toNat default) (l.getD k default))) 191) :: (b5, blk (ePan (l.getD k default)) 82) :: (b2, blk [.slice y.1 (flq l k).length y.2.1] 186) :: (b3, blk [I 0] 27) :: y.2.2) (fun b6 => True) ?_ (fun hk => ?_)
        · intro b6 hx
          refine GE_seq ?_
          refine GE_drawn (.st 0 (.st 1 (.st 2 (.st 3 (.st 4 (.st 5 (.ld 6 [] (.st 7 (.st 8 (.st 9 (.st 10 (.st 11 .nil)))))))))))) [6] (by decide +kernel) ?_
          refine GT_st rfl rfl rfl rfl (V_loadN (vs := [_, _, _, _, _]) rfl rfl ag_191 sz_191 rfl (CellsAt.item rfl)) ?_
          refine GT_st rfl rfl rfl rfl (V_load rfl rfl ag_186 (CellAt.item rfl)) ?_
          first | refine GT_st rfl rfl rfl rfl (V_field rfl rfl fo_82_0) ?_ | refine GT_st rfl rfl rfl rfl (V_fieldA rfl rfl fo_82_0) ?_
          refine GT_st rfl rfl rfl rfl (V_load rfl rfl ag_3 (CellAt.item rfl)) ?_
          refine GT_st rfl rfl rfl rfl (V_index rfl rfl rfl Tryz.underlying186 sz_191 (k := (l.getD k default).on.toNat) (by omega) hol (hO.isSome hol)) ?_
          refine GT_st rfl rfl rfl rfl (V_loadN (vs := [_, _, _, _, _]) rfl rfl ag_191 sz_191 rfl (show CellsAt _ _ _ (eBox ((flq l k).getD (l.getD k default).on.toNat default)) from CellsAt.own hO eBox_len hol)) ?_
          refine GT_call0 rfl rfl rfl rfl rfl rfl rfl rfl rn_80 (fun w hw => C_common (b := hangB ((flq l k).getD (l.getD k default).on.toNat default) (l.getD k default)) (c := (flq l k).getD (l.getD k default).on.toNat default) hhb2 hob2) (GR_nil) ?_
          refine GT_st rfl rfl rfl rfl (V_move rfl rfl) ?_
          refine GT_st rfl rfl rfl rfl (V_extract rfl rfl rfl) ?_
          refine GT_st rfl rfl rfl rfl (V_extract rfl rfl rfl) ?_
          refine GT_st rfl rfl rfl rfl (V_assign rfl rfl) ?_
          refine GT_st rfl rfl rfl rfl (V_assign rfl rfl) ?_
          refine GT_nil ?_
          refine GE_seq ?_
          refine GE_slots (L' := [(2, _), (3, _), (6, _), (7, _), (8, _), (25, _), (26, _), (27, _)]) ⟨rfl, rfl, rfl, rfl, rfl, rfl, rfl, rfl, trivial⟩ ?_
          refine GE_plain (.st 0 (.st 1 (.st 2 (.st 3 (.st 4 (.st 5 (.ld 6 [] .nil))))))) rfl ?_
          refine GT_st rfl rfl rfl rfl (V_move rfl rfl) ?_
          refine GT_st rfl rfl rfl rfl (V_gtr rfl rfl rfl) ?_
          refine GT_st rfl rfl rfl rfl (V_move rfl rfl) ?_
          first | refine GT_splitNot (d := 113) rfl (fun q3 => ?_) (fun q3 => ?_) | refine GT_split (d := 113) rfl (fun q3 => ?_) (fun q3 => ?_) | refine GT_splitNotB (d := 113) rfl (fun q3 => ?_) (fun q3 => ?_) | refine GT_splitB (d := 113) rfl (fun q3 => ?_) (fun q3 => ?_)
          · skip
            refine GT_skip rfl rfl rfl rfl rfl (by decide) rfl rfl ?_
            refine GT_skip rfl rfl rfl rfl rfl (by decide) rfl rfl ?_
            refine GT_st rfl rfl rfl rfl (V_pick_t rfl rfl rfl) ?_
            refine GT_call0 rfl rfl rfl rfl rfl rfl rfl rfl rn_197 (fun w hw => C_must) (GR_nil) ?_
            refine GT_nil ?_
            refine GE_slots (L' := [(2, _), (3, _), (6, _), (25, _), (26, _), (27, _), (114, _), (115, _)]) ⟨rfl, rfl, rfl, rfl, rfl, rfl, rfl, rfl, trivial⟩ ?_
            refine GE_plain (.st 0 (.st 1 (.ld 2 [] (.ld 3 [] (.ld 4 [] .nil))))) rfl ?_
            refine GT_st rfl rfl rfl rfl (V_load rfl rfl ag_186 (CellAt.item rfl)) ?_
            refine GT_st rfl rfl rfl rfl (V_loadN (vs := [_, _, _, _, _]) rfl rfl ag_191 sz_191 rfl (CellsAt.item rfl)) ?_
            refine GT_buildSlice (z := [_, _, _, _, _]) rfl rfl rfl rfl rfl Tryz.underlying186 zc_191 sz_191 (by decide) rfl rfl (fun _ => GR_nil) (fun b120 => ?_)
            refine GT_append (enc := eBox) (l := flq l k) (m := [hangB ((flq l k).getD (l.getD k default).on.toNat default) (l.getD k default)]) rfl rfl rfl rfl rfl rfl rfl hO (fun w m => RdL.own' m eBox_len) Tryz.underlying186 zc_191 sz_191 ⟨rfl, by decide⟩ by_191 ⟨by rw [hfl]; simp only [List.length_singleton]; omega, by rw [hfl]; simp only [List.length_singleton]; omega⟩ eBox_len eBox_one (fun _ _ _ _ => GR_nil) (fun A3 c3 I3 hO3 => ?_)
            refine GT_store (vs := [_]) (l' := [_]) rfl rfl rfl rfl rfl rfl rfl sz_186 rfl rfl (Nat.le_of_ble_eq_true rfl) rfl (GR_nil) ?_
            refine GT_nil ?_
            refine GE_inBlock ?_
            refine GE_slots (L' := [(2, _), (3, _), (25, _), (26, _), (27, _), (114, _), (115, _)]) ⟨rfl, rfl, rfl, rfl, rfl, rfl, rfl, trivial⟩ ?_
            refine GE_plain (.st 0 (.ld 1 [] .nil)) rfl ?_
            refine GT_st rfl rfl rfl rfl (V_add rfl rfl rfl (wrap_i64 (by omega))) ?_
            refine GT_ldv rfl rfl rfl rfl rfl (V_move rfl rfl) (GR_nil) ?_
            refine GT_nil ?_
            first | exact GE_to (ih (k + 1, (A3, c3, I3)) ⟨by dsimp only; omega, by dsimp only; rw [hfk]; exact hO3⟩ (by dsimp only; omega)) ⟨rfl, rfl, rfl, rfl, rfl, trivial⟩ (HS.cons (by dsimp only; rw [hfk]) (HS.cons rfl HS.last)) | exact GE_to (ih (0 + 1, (A3, c3, I3)) ⟨by dsimp only; omega, by dsimp only; rw [hfk]; exact hO3⟩ (by dsimp only; omega)) ⟨rfl, rfl, rfl, rfl, rfl, trivial⟩ (HS.cons (by dsimp only; rw [hfk]) (HS.cons rfl HS.last))
          · have hto2 := hto.resolve_left q3
            refine GT_st_g rfl rfl rfl rfl rfl rfl rfl (V_move rfl rfl) ?_
            refine GT_st_g rfl rfl rfl rfl rfl rfl rfl (V_isT (V_gtr rfl rfl rfl) hto2) ?_
            refine GT_st rfl rfl rfl rfl (V_pick_f rfl rfl rfl) ?_
            refine GT_call0 rfl rfl rfl rfl rfl rfl rfl rfl rn_197 (fun w hw => C_must) (GR_nil) ?_
            refine GT_nil ?_
            refine GE_slots (L' := [(2, _), (3, _), (6, _), (25, _), (26, _), (27, _), (114, _), (115, _)]) ⟨rfl, rfl, rfl, rfl, rfl, rfl, rfl, rfl, trivial⟩ ?_
            refine GE_plain (.st 0 (.st 1 (.ld 2 [] (.ld 3 [] (.ld 4 [] .nil))))) rfl ?_
            refine GT_st rfl rfl rfl rfl (V_load rfl rfl ag_186 (CellAt.item rfl)) ?_
            refine GT_st rfl rfl rfl rfl (V_loadN (vs := [_, _, _, _, _]) rfl rfl ag_191 sz_191 rfl (CellsAt.item rfl)) ?_
            refine GT_buildSlice (z := [_, _, _, _, _]) rfl rfl rfl rfl rfl Tryz.underlying186 zc_191 sz_191 (by decide) rfl rfl (fun _ => GR_nil) (fun b120 => ?_)
            refine GT_append (enc := eBox) (l := flq l k) (m := [hangB ((flq l k).getD (l.getD k default).on.toNat default) (l.getD k default)]) rfl rfl rfl rfl rfl rfl rfl hO (fun w m => RdL.own' m eBox_len) Tryz.underlying186 zc_191 sz_191 ⟨rfl, by decide⟩ by_191 ⟨by rw [hfl]; simp only [List.length_singleton]; omega, by rw [hfl]; simp only [List.length_singleton]; omega⟩ eBox_len eBox_one (fun _ _ _ _ => GR_nil) (fun A3 c3 I3 hO3 => ?_)
            refine GT_store (vs := [_]) (l' := [_]) rfl rfl rfl rfl rfl rfl rfl sz_186 rfl rfl (Nat.le_of_ble_eq_true rfl) rfl (GR_nil) ?_
            refine GT_nil ?_
            refine GE_inBlock ?_
            refine GE_slots (L' := [(2, _), (3, _), (25, _), (26, _), (27, _), (114, _), (115, _)]) ⟨rfl, rfl, rfl, rfl, rfl, rfl, rfl, trivial⟩ ?_
            refine GE_plain (.st 0 (.ld 1 [] .nil)) rfl ?_
            refine GT_st rfl rfl rfl rfl (V_add rfl rfl rfl (wrap_i64 (by omega))) ?_
            refine GT_ldv rfl rfl rfl rfl rfl (V_move rfl rfl) (GR_nil) ?_
            refine GT_nil ?_
            first | exact GE_to (ih (k + 1, (A3, c3, I3)) ⟨by dsimp only; omega, by dsimp only; rw [hfk]; exact hO3⟩ (by dsimp only; omega)) ⟨rfl, rfl, rfl, rfl, rfl, trivial⟩ (HS.cons (by dsimp only; rw [hfk]) (HS.cons rfl HS.last)) | exact GE_to (ih (0 + 1, (A3, c3, I3)) ⟨by dsimp only; omega, by dsimp only; rw [hfk]; exact hO3⟩ (by dsimp only; omega)) ⟨rfl, rfl, rfl, rfl, rfl, trivial⟩ (HS.cons (by dsimp only; rw [hfk]) (HS.cons rfl HS.last))
        · skip
          refine GE_slots (L' := [(2, _), (3, _), (5, _), (25, _), (26, _), (27, _), (37, _), (38, _), (39, _), (40, _), (72, _), (73, _), (74, _), (75, _), (78, _), (79, _), (80, _), (83, _), (84, _), (85, _), (88, _), (89, _), (90, _), (91, _)]) ⟨rfl, rfl, rfl, rfl, rfl, rfl, rfl, rfl, rfl, rfl, rfl, rfl, rfl, rfl, rfl, rfl, rfl, rfl, rfl, rfl, rfl, rfl, rfl, rfl, trivial⟩ ?_
          refine GE_drawn (.st 0 (.st 1 (.st 2 (.st 3 (.st 4 (.st 5 (.br (.ld 6 [] (.ld 7 [0, 1, 2, 3, 4, 5] (.ld 8 [] .nil))) (.ld 7 [0, 1, 2, 3, 4, 5] (.ld 6 [] (.ld 8 [] .nil)))))))))) [6, 7, 8] (by decide +kernel) ?_
          refine GT_st rfl rfl rfl rfl (V_load rfl rfl ag_186 (CellAt.item rfl)) ?_
          first | refine GT_st rfl rfl rfl rfl (V_field rfl rfl fo_82_0) ?_ | refine GT_st rfl rfl rfl rfl (V_fieldA rfl rfl fo_82_0) ?_
          refine GT_st rfl rfl rfl rfl (V_load rfl rfl ag_3 (CellAt.item rfl)) ?_
          refine GT_st rfl rfl rfl rfl (V_index rfl rfl rfl Tryz.underlying186 sz_191 (k := (l.getD k default).on.toNat) (by omega) hol (hO.isSome hol)) ?_
          refine GT_st rfl rfl rfl rfl (V_loadN (vs := [_, _, _, _, _]) rfl rfl ag_191 sz_191 rfl (show CellsAt _ _ _ (eBox ((flq l k).getD (l.getD k default).on.toNat default)) from CellsAt.own hO eBox_len hol)) ?_
          refine GT_st rfl rfl rfl rfl (V_loadN (vs := [_, _, _, _, _]) rfl rfl ag_82 sz_82 rfl (CellsAt.item rfl)) ?_
          refine GT_br ?_ ?_
          · skip
            refine GT_call0 rfl rfl rfl rfl rfl rfl rfl rfl rn_198 (fun w hw => C_hang (b := (flq l k).getD (l.getD k default).on.toNat default) (p := l.getD k default) hob2 hsz.1 hsz.2 o4 o3) (GR_nil) ?_
            refine GT_alloc rfl rfl rfl rfl rfl zc_191 (fun _ => GR_cons rfl rfl rfl rfl (V_load rfl rfl ag_186 (CellAt.item rfl)) (GR_cons rfl rfl rfl rfl ((by first | exact V_field rfl rfl fo_82_0 | exact V_fieldA rfl rfl fo_82_0)) (GR_cons rfl rfl rfl rfl (V_load rfl rfl ag_3 (CellAt.item rfl)) (GR_cons rfl rfl rfl rfl (V_index rfl rfl rfl Tryz.underlying186 sz_191 (k := (l.getD k default).on.toNat) (by omega) hol (hO.isSome hol)) (GR_cons rfl rfl rfl rfl (V_loadN (vs := [_, _, _, _, _]) rfl rfl ag_191 sz_191 rfl (show CellsAt _ _ _ (eBox ((flq l k).getD (l.getD k default).on.toNat default)) from CellsAt.own hO eBox_len hol)) (GR_cons rfl rfl rfl rfl (V_loadN (vs := [_, _, _, _, _]) rfl rfl ag_82 sz_82 rfl (CellsAt.item rfl)) (GR_nil))))))) (fun b6 => ?_)
            refine GT_store (vs := [_, _, _, _, _]) (l' := [_, _, _, _, _]) rfl rfl rfl rfl rfl rfl rfl sz_191 rfl rfl (Nat.le_of_ble_eq_true rfl) rfl (GR_nil) ?_
            refine GT_nil ?_
            exact GE_to (hk b6 trivial) ⟨rfl, rfl, rfl, rfl, rfl, rfl, rfl, trivial⟩ (HS.cons rfl (HS.cons rfl (HS.cons rfl (HS.cons rfl HS.last))))
          · skip
            refine GT_alloc rfl rfl rfl rfl rfl zc_191 (fun _ => GR_cons rfl rfl rfl rfl (V_load rfl rfl ag_186 (CellAt.item rfl)) (GR_cons rfl rfl rfl rfl ((by first | exact V_field rfl rfl fo_82_0 | exact V_fieldA rfl rfl fo_82_0)) (GR_cons rfl rfl rfl rfl (V_load rfl rfl ag_3 (CellAt.item rfl)) (GR_cons rfl rfl rfl rfl (V_index rfl rfl rfl Tryz.underlying186 sz_191 (k := (l.getD k default).on.toNat) (by omega) hol (hO.isSome hol)) (GR_cons rfl rfl rfl rfl (V_loadN (vs := [_, _, _, _, _]) rfl rfl ag_191 sz_191 rfl (show CellsAt _ _ _ (eBox ((flq l k).getD (l.getD k default).on.toNat default)) from CellsAt.own hO eBox_len hol)) (GR_cons rfl rfl rfl rfl (V_loadN (vs := [_, _, _, _, _]) rfl rfl ag_82 sz_82 rfl (CellsAt.item rfl)) (GR_nil))))))) (fun b6 => ?_)
            refine GT_call0 rfl rfl rfl rfl rfl rfl rfl rfl rn_198 (fun w hw => C_hang (b := (flq l k).getD (l.getD k default).on.toNat default) (p := l.getD k default) hob2 hsz.1 hsz.2 o4 o3) (GR_nil) ?_
            refine GT_store (vs := [_, _, _, _, _]) (l' := [_, _, _, _, _]) rfl rfl rfl rfl rfl rfl rfl sz_191 rfl rfl (Nat.le_of_ble_eq_true rfl) rfl (GR_nil) ?_
            refine GT_nil ?_
            exact GE_to (hk b6 trivial) ⟨rfl, rfl, rfl, rfl, rfl, rfl, rfl, trivial⟩ (HS.cons rfl (HS.cons rfl (HS.cons rfl (HS.cons rfl HS.last))))
    · obtain rfl : k = l.length := (by omega)
      refine GE_exit rfl ?_
      refine GE_seq ?_
      refine GE_seq ?_
      refine GE_slots (L' := [(2, _), (3, _)]) ⟨rfl, rfl, trivial⟩ ?_
      refine GE_plain (.st 0 (.st 1 (.st 2 .nil))) rfl ?_
      refine GT_st rfl rfl rfl rfl (V_load rfl rfl ag_186 (CellAt.item rfl)) ?_
      refine GT_st rfl rfl rfl rfl (V_len rfl Tryz.underlying186 rfl) ?_
      refine GT_st rfl rfl rfl rfl (V_move rfl rfl) ?_
      refine GT_nil ?_
      refine GE_block ?_
      refine GE_to (GE_loop (ι := Nat) (fun i => l.length - i) (fun i => [(2, ptr b2 0), (3, ptr b3 0), (123, .slice y.1 (flq l l.length).length y.2.1), (124, I (flq l l.length).length), (125, I i)]) (fun i => (b2, blk [.slice y.1 (flq l l.length).length y.2.1] 186) :: (b3, blk [I 0] 27) :: y.2.2) (fun i => i ≤ l.length) ?_ 0 ?_) ⟨rfl, rfl, rfl, rfl, rfl, trivial⟩ (HS.cons rfl (HS.cons rfl HS.last))
      · intro i hi ih2; have hfl := flq_len l l.length; have hcap := own_le hO
        refine GE_seq ?_
        refine GE_plain (.st 0 .nil) rfl ?_
        refine GT_st rfl rfl rfl rfl (V_lss rfl rfl rfl) ?_
        refine GT_nil ?_
        refine GE_seq ?_
        first | refine GE_condNot rfl (fun q4 => ?_) (fun q4 => ?_) | refine GE_cond rfl (fun q4 => ?_) (fun q4 => ?_) | refine GE_condNotB rfl (fun q4 => ?_) (fun q4 => ?_) | refine GE_condB rfl (fun q4 => ?_) (fun q4 => ?_)
        · have hil : i < (flq l l.length).length := (by omega); have hib := flat_bd hN (i := i) (by omega); have hib2 : bdB 100000000 ((flq l l.length).getD i default) := (by unfold bdB flat at hib; unfold bdB; omega)
          refine GE_skip ?_
          refine GE_seq ?_
          refine GE_block ?_
          refine GE_seq ?_
          refine GE_plain (.st 0 (.st 1 (.st 2 (.ld 3 [] (.st 4 (.ld 5 [] .nil)))))) rfl ?_
          refine GT_st rfl rfl rfl rfl (V_move rfl rfl) ?_
          refine GT_st rfl rfl rfl rfl (V_index rfl rfl rfl Tryz.underlying186 sz_191 (k := i) rfl hil (hO.isSome hil)) ?_
          refine GT_st rfl rfl rfl rfl (V_loadN (vs := [_, _, _, _, _]) rfl rfl ag_191 sz_191 rfl (show CellsAt _ _ _ (eBox ((flq l l.length).getD i default)) from CellsAt.own hO eBox_len hil)) ?_
          refine GT_alloc rfl rfl rfl rfl rfl zc_191 (fun _ => GR_nil) (fun b10 => ?_)
          refine GT_st rfl rfl rfl rfl (V_assign rfl rfl) ?_
          refine GT_store (vs := [_, _, _, _, _]) (l' := [_, _, _, _, _]) rfl rfl rfl rfl rfl rfl rfl sz_191 rfl rfl (Nat.le_of_ble_eq_true rfl) rfl (GR_nil) ?_
          refine GT_nil ?_
          refine GE_seq ?_
          refine GE_slots (L' := [(2, _), (3, _), (9, _), (10, _), (123, _), (124, _), (125, _)]) ⟨rfl, rfl, rfl, rfl, rfl, rfl, rfl, trivial⟩ ?_
          refine GE_plain (.st 0 (.st 1 (.st 2 (.st 3 (.st 4 .nil))))) rfl ?_
          refine GT_st rfl rfl rfl rfl (V_load rfl rfl ag_186 (CellAt.item rfl)) ?_
          refine GT_st rfl rfl rfl rfl (V_move rfl rfl) ?_
          refine GT_st rfl rfl rfl rfl (V_sliceTo rfl rfl rfl Tryz.underlying186 (by rw [sz_191]; rfl) (by omega)) ?_
          refine GT_st rfl rfl rfl rfl (V_len rfl Tryz.underlying186 rfl) ?_
          refine GT_st rfl rfl rfl rfl (V_move rfl rfl) ?_
          refine GT_nil ?_
          refine GE_block ?_
          refine GE_to (GE_loop (ι := Nat) (fun j => i - j) (fun j => [(2, ptr b2 0), (3, ptr b3 0), (10, ptr b10 0), (123, .slice y.1 (flq l l.length).length y.2.1), (124, I (flq l l.length).length), (125, I i), (132, .slice y.1 i y.2.1), (133, I i), (134, I j)]) (fun j => (b10, blk (eBox ((flq l l.length).getD i default)) 191) :: (b2, blk [.slice y.1 (flq l l.length).length y.2.1] 186) :: (b3, blk [I 0] 27) :: y.2.2) (fun j => j ≤ i) ?_ 0 ?_) ⟨rfl, rfl, rfl, rfl, rfl, rfl, rfl, rfl, rfl, trivial⟩ (HS.cons rfl (HS.cons rfl (HS.cons rfl HS.last)))
          · intro j hj ih3
            refine GE_seq ?_
            refine GE_plain (.st 0 .nil) rfl ?_
            refine GT_st rfl rfl rfl rfl (V_lss rfl rfl rfl) ?_
            refine GT_nil ?_
            refine GE_seq ?_
            first | refine GE_condNot rfl (fun q5 => ?_) (fun q5 => ?_) | refine GE_cond rfl (fun q5 => ?_) (fun q5 => ?_) | refine GE_condNotB rfl (fun q5 => ?_) (fun q5 => ?_) | refine GE_condB rfl (fun q5 => ?_) (fun q5 => ?_)
            · have hji : j < i := (by omega); have hjl : j < (flq l l.length).length := (by omega); have hjb := flat_bd hN (i := j) (by omega); have hjb2 : bdB 100000000 ((flq l l.length).getD j default) := (by unfold bdB flat at hjb; unfold bdB; omega); have hap : comW ((flq l l.length).getD i default) ((flq l l.length).getD j default) ≤ 0 ∨ comH ((flq l l.length).getD i default) ((flq l l.length).getD j default) ≤ 0 := hN.apart i (by omega) j hji
              refine GE_skip ?_
              refine GE_seq ?_
              refine GE_block ?_
              refine GE_seq ?_
              refine GE_plain (.st 0 (.st 1 (.ld 2 [] (.ld 3 [] .nil)))) rfl ?_
              refine GT_st rfl rfl rfl rfl (V_index rfl rfl rfl Tryz.underlying186 sz_191 (k := j) rfl hji (hO.isSome hjl)) ?_
              refine GT_st rfl rfl rfl rfl (V_loadN (vs := [_, _, _, _, _]) rfl rfl ag_191 sz_191 rfl (show CellsAt _ _ _ (eBox ((flq l l.length).getD j default)) from CellsAt.own hO eBox_len hjl)) ?_
              refine GT_alloc rfl rfl rfl rfl rfl zc_191 (fun _ => GR_nil) (fun b12 => ?_)
              refine GT_store (vs := [_, _, _, _, _]) (l' := [_, _, _, _, _]) rfl rfl rfl rfl rfl rfl rfl sz_191 rfl rfl (Nat.le_of_ble_eq_true rfl) rfl (GR_nil) ?_
              refine GT_nil ?_
              refine GE_seq ?_
              refine GE_plain (.st 0 (.st 1 (.ld 2 [] (.st 3 (.st 4 (.st 5 (.st 6 (.st 7 .nil)))))))) rfl ?_
              refine GT_st rfl rfl rfl rfl (V_loadN (vs := [_, _, _, _, _]) rfl rfl ag_191 sz_191 rfl (CellsAt.item rfl)) ?_
              refine GT_st rfl rfl rfl rfl (V_loadN (vs := [_, _, _, _, _]) rfl rfl ag_191 sz_191 rfl (CellsAt.item rfl)) ?_
              refine GT_call0 rfl rfl rfl rfl rfl rfl rfl rfl rn_80 (fun w hw => C_common (b := (flq l l.length).getD i default) (c := (flq l l.length).getD j default) hib2 hjb2) (GR_nil) ?_
              refine GT_st rfl rfl rfl rfl (V_move rfl rfl) ?_
              refine GT_st rfl rfl rfl rfl (V_extract rfl rfl rfl) ?_
              refine GT_st rfl rfl rfl rfl (V_extract rfl rfl rfl) ?_
              refine GT_st rfl rfl rfl rfl (V_assign rfl rfl) ?_
              refine GT_st rfl rfl rfl rfl (V_assign rfl rfl) ?_
              refine GT_nil ?_
              refine GE_slots (L' := [(2, _), (3, _), (10, _), (13, _), (14, _), (123, _), (124, _), (125, _), (132, _), (133, _), (134, _)]) ⟨rfl, rfl, rfl, rfl, rfl, rfl, rfl, rfl, rfl, rfl, rfl, trivial⟩ ?_
              refine GE_plain (.st 0 (.st 1 (.st 2 (.st 3 (.st 4 (.st 5 (.ld 6 [] .nil))))))) rfl ?_
              refine GT_st rfl rfl rfl rfl (V_move rfl rfl) ?_
              refine GT_st rfl rfl rfl rfl (V_leq rfl rfl rfl) ?_
              refine GT_st rfl rfl rfl rfl (V_move rfl rfl) ?_
              first | refine GT_splitNot (d := 146) rfl (fun q6 => ?_) (fun q6 => ?_) | refine GT_split (d := 146) rfl (fun q6 => ?_) (fun q6 => ?_) | refine GT_splitNotB (d := 146) rfl (fun q6 => ?_) (fun q6 => ?_) | refine GT_splitB (d := 146) rfl (fun q6 => ?_) (fun q6 => ?_)
              · skip
                refine GT_skip rfl rfl rfl rfl rfl (by decide) rfl rfl ?_
                refine GT_skip rfl rfl rfl rfl rfl (by decide) rfl rfl ?_
                refine GT_st rfl rfl rfl rfl (V_pick_t rfl rfl rfl) ?_
                refine GT_call0 rfl rfl rfl rfl rfl rfl rfl rfl rn_197 (fun w hw => C_must) (GR_nil) ?_
                refine GT_nil ?_
                refine GE_inBlock ?_
                refine GE_slots (L' := [(2, _), (3, _), (10, _), (123, _), (124, _), (125, _), (132, _), (133, _), (134, _), (147, _), (148, _)]) ⟨rfl, rfl, rfl, rfl, rfl, rfl, rfl, rfl, rfl, rfl, rfl, trivial⟩ ?_
                refine GE_plain (.st 0 (.ld 1 [] .nil)) rfl ?_
                refine GT_st rfl rfl rfl rfl (V_add rfl rfl rfl (wrap_i64 (by omega))) ?_
                refine GT_ldv rfl rfl rfl rfl rfl (V_move rfl rfl) (GR_nil) ?_
                refine GT_nil ?_
                exact GE_to (ih3 (j + 1) (by omega) (by omega)) ⟨rfl, rfl, rfl, rfl, rfl, rfl, rfl, rfl, rfl, trivial⟩ (HS.cons rfl (HS.cons rfl (HS.cons rfl HS.last)))
              · have hap2 := hap.resolve_left q6
                refine GT_st_g rfl rfl rfl rfl rfl rfl rfl (V_move rfl rfl) ?_
                refine GT_st_g rfl rfl rfl rfl rfl rfl rfl (V_isT (V_leq rfl rfl rfl) hap2) ?_
                refine GT_st rfl rfl rfl rfl (V_pick_f rfl rfl rfl) ?_
                refine GT_call0 rfl rfl rfl rfl rfl rfl rfl rfl rn_197 (fun w hw => C_must) (GR_nil) ?_
                refine GT_nil ?_
                refine GE_inBlock ?_
                refine GE_slots (L' := [(2, _), (3, _), (10, _), (123, _), (124, _), (125, _), (132, _), (133, _), (134, _), (147, _), (148, _)]) ⟨rfl, rfl, rfl, rfl, rfl, rfl, rfl, rfl, rfl, rfl, rfl, trivial⟩ ?_
                refine GE_plain (.st 0 (.ld 1 [] .nil)) rfl ?_
                refine GT_st rfl rfl rfl rfl (V_add rfl rfl rfl (wrap_i64 (by omega))) ?_
                refine GT_ldv rfl rfl rfl rfl rfl (V_move rfl rfl) (GR_nil) ?_
                refine GT_nil ?_
                exact GE_to (ih3 (j + 1) (by omega) (by omega)) ⟨rfl, rfl, rfl, rfl, rfl, rfl, rfl, rfl, rfl, trivial⟩ (HS.cons rfl (HS.cons rfl (HS.cons rfl HS.last)))
            · skip
              refine GE_exit rfl ?_
              refine GE_inBlock ?_
              refine GE_slots (L' := [(2, _), (3, _), (123, _), (124, _), (125, _)]) ⟨rfl, rfl, rfl, rfl, rfl, trivial⟩ ?_
              refine GE_plain (.st 0 (.ld 1 [] .nil)) rfl ?_
              refine GT_st rfl rfl rfl rfl (V_add rfl rfl rfl (wrap_i64 (by omega))) ?_
              refine GT_ldv rfl rfl rfl rfl rfl (V_move rfl rfl) (GR_nil) ?_
              refine GT_nil ?_
              exact GE_to (ih2 (i + 1) (by omega) (by omega)) ⟨rfl, rfl, rfl, rfl, rfl, trivial⟩ (HS.cons rfl (HS.cons rfl HS.last))
          · exact Nat.zero_le _
        · skip
          refine GE_exit rfl ?_
          refine GE_seq ?_
          refine GE_slots (L' := [(2, _), (3, _)]) ⟨rfl, rfl, trivial⟩ ?_
          refine GE_plain (.st 0 (.ld 1 [] (.ld 2 [] .nil))) rfl ?_
          refine GT_st rfl rfl rfl rfl (V_load rfl rfl ag_186 (CellAt.item rfl)) ?_
          refine GT_store (vs := [_]) (l' := [_]) rfl rfl rfl rfl rfl rfl rfl sz_186 rfl rfl (Nat.le_of_ble_eq_true rfl) rfl (GR_nil) ?_
          refine GT_store (vs := [_]) (l' := [_]) rfl rfl rfl rfl rfl rfl rfl sz_27 rfl rfl (Nat.le_of_ble_eq_true rfl) rfl (GR_nil) ?_
          refine GT_nil ?_
          refine GE_retF Tryz.func136 rn_196 back_flat ⟨_, _, ⟨_, rfl, fun w m => run_loadVar_one ag_186 (CellAt.item rfl w m)⟩, ⟨_, rfl, fun w m => run_loadVar_one ag_27 (CellAt.item rfl w m)⟩, rfl⟩ (fun w hw => ?_)
          rw [flq_len] at hO ⊢; exact ⟨y, hO, rfl, hw.hs (C := cx Tryz.prog hm 0 0 _ none' fun _ _ => True) HS.last⟩
      · exact Nat.zero_le _
  · exact ⟨Nat.zero_le _, Own.nil⟩
end
end Go.Proofs.YtpbflnfcgcldkaaGreatDoor.Net
/- The folded net, walked. -/
namespace Go.Proofs.YtpbflnfcgcldkaaGreatDoor.Net
open Go.Sx Go.Proofs Go.RowKit
open Side (getD_memT sh_trans own_le)
theorem fldq_0 (l : List Pan) (f : List Box) (n : Nat) (b : Box) : fldq l f n 0 b = b := by cases n <;> rfl
theorem fldq_s (l : List Pan) (f : List Box) {n k : Nat} (b : Box) (h : 0 < k) (hk : k ≤ n) : fldq l f n k b = fldq l f (n - 1) (l.getD k default).on.toNat (overB b (f.getD (l.getD k default).on.toNat default) (l.getD k default).edge) := by
  obtain ⟨m, rfl⟩ : ∃ m, n = m + 1 := ⟨n - 1, by omega⟩
  rw [fldq, if_neg (by omega)]; rfl
section
variable {w : World} {A : Option Addr} {c : Nat} {l : List Pan}
set_option maxRecDepth 20000 in
set_option maxHeartbeats 1000000 in
theorem C_folded (hr : RdL w 5 ePan A l) (hN : NetOk l) : Con Tryz.prog 79 [.slice A l.length c] w (fun y : Option Addr × Nat × Items => Own 5 191 eBox (folded l) (.slice y.1 l.length y.2.1) y.2.2) (fun y => .tuple #[.slice y.1 l.length y.2.1, I 0]) (fun y => y.2.2) := by
  obtain ⟨n1, n2⟩ := hN.len
  have hfl := flat_len l
  refine Ret_of (vs := [_]) hm none' Tryz.func79 rfl Tryz.ntmps79 rfl ?_
  dsimp only [slotsOf]
  refine GE_seq ?_
  refine GE_plain (.st 0 (.st 1 .nil)) rfl ?_
  refine GT_st rfl rfl rfl rfl (V_assign rfl rfl) ?_
  refine GT_st rfl rfl rfl rfl (V_assign rfl rfl) ?_
  refine GT_nil ?_
  refine GE_seq ?_
  refine GE_plain (.st 0 (.ld 1 [] (.st 2 (.st 3 (.st 4 (.st 5 (.st 6 .nil))))))) rfl ?_
  refine GT_st rfl rfl rfl rfl (V_move rfl rfl) ?_
  refine GT_call rfl rfl rfl rfl rfl rfl rfl rfl rn_136 (fun w hw => C_flat (hr.sh hw) hN) (fun _ _ => GR_nil) (fun y hy => ?_)
  refine GT_st rfl rfl rfl rfl (V_move rfl rfl) ?_
  refine GT_st rfl rfl rfl rfl (V_extract rfl rfl rfl) ?_
  refine GT_st rfl rfl rfl rfl (V_extract rfl rfl rfl) ?_
  refine GT_st rfl rfl rfl rfl (V_assign rfl rfl) ?_
  refine GT_st rfl rfl rfl rfl (V_assign rfl rfl) ?_
  refine GT_nil ?_
  refine GE_seq ?_
  refine GE_seq ?_
  refine GE_slots (L' := [(0, _), (4, _), (5, _)]) ⟨rfl, rfl, rfl, trivial⟩ ?_
  refine GE_plain (.st 0 (.st 1 .nil)) rfl ?_
  refine GT_st rfl rfl rfl rfl (V_move rfl rfl) ?_
  refine GT_st rfl rfl rfl rfl (V_isF (V_neq rfl rfl rfl) (fun q => q rfl)) ?_
  refine GT_nil ?_
  refine GE_cond_f rfl ?_
  refine GE_skip ?_
  refine GE_seq ?_
  refine GE_plain (.st 0 .nil) rfl ?_
  refine GT_st rfl rfl rfl rfl (V_assign rfl rfl) ?_
  refine GT_nil ?_
  refine GE_seq ?_
  refine GE_seq ?_
  refine GE_plain (.st 0 (.st 1 (.st 2 .nil))) rfl ?_
  refine GT_st rfl rfl rfl rfl (V_move rfl rfl) ?_
  refine GT_st rfl rfl rfl rfl (V_len rfl Tryz.underlying186 rfl) ?_
  refine GT_st rfl rfl rfl rfl (V_move rfl rfl) ?_
  refine GT_nil ?_
  refine GE_block ?_
  refine GE_to (GE_loop (ι := Nat × (Option Addr × Nat × Items)) (fun z => l.length - z.1) (fun z => [(0, .slice A l.length c), (4, .slice y.1 l.length y.2.1), (6, .slice z.2.1 ((List.range z.1).map (fld l)).length z.2.2.1), (18, .slice y.1 l.length y.2.1), (19, I l.length), (20, I z.1)]) (fun z => z.2.2.2 ++ y.2.2) (fun z => z.1 ≤ l.length ∧ Own 5 191 eBox ((List.range z.1).map (fld l)) (.slice z.2.1 ((List.range z.1).map (fld l)).length z.2.2.1) z.2.2.2) ?_ (0, (none, 0, [])) ?_) ⟨rfl, rfl, rfl, rfl, rfl, rfl, trivial⟩ (HS.chunk (I := []) HS.last)
  · rintro ⟨i, u⟩ ⟨hi, hO⟩ ih; dsimp only at hi hO ih ⊢
    refine GE_seq ?_
    refine GE_plain (.st 0 .nil) rfl ?_
    refine GT_st rfl rfl rfl rfl (V_lss rfl rfl rfl) ?_
    refine GT_nil ?_
    refine GE_seq ?_
    first | refine GE_condNot rfl (fun q1 => ?_) (fun q1 => ?_) | refine GE_cond rfl (fun q1 => ?_) (fun q1 => ?_) | refine GE_condNotB rfl (fun q1 => ?_) (fun q1 => ?_) | refine GE_condB rfl (fun q1 => ?_) (fun q1 => ?_)
    · have hil : i < l.length := (by omega); have hif : i < (flat l).length := (by omega); have hml : ((List.range i).map (fld l)).length = i := (by simp)
      refine GE_skip ?_
      refine GE_seq ?_
      refine GE_block ?_
      refine GE_seq ?_
      refine GE_plain (.st 0 (.st 1 (.st 2 (.ld 3 [] (.st 4 (.ld 5 [] .nil)))))) rfl ?_
      refine GT_st rfl rfl rfl rfl (V_move rfl rfl) ?_
      refine GT_st rfl rfl rfl rfl (V_index rfl rfl rfl Tryz.underlying186 sz_191 (k := i) rfl hil (hy.isSome hif)) ?_
      refine GT_st rfl rfl rfl rfl (V_loadN (vs := [_, _, _, _, _]) rfl rfl ag_191 sz_191 rfl (show CellsAt _ _ _ (eBox ((flat l).getD i default)) from CellsAt.own hy eBox_len hif)) ?_
      refine GT_alloc rfl rfl rfl rfl rfl zc_191 (fun _ => GR_nil) (fun b8 => ?_)
      refine GT_st rfl rfl rfl rfl (V_assign rfl rfl) ?_
      refine GT_store (vs := [_, _, _, _, _]) (l' := [_, _, _, _, _]) rfl rfl rfl rfl rfl rfl rfl sz_191 rfl rfl (Nat.le_of_ble_eq_true rfl) rfl (GR_nil) ?_
      refine GT_nil ?_
      refine GE_seq ?_
      refine GE_seq ?_
      refine GE_slots (L' := [(0, _), (4, _), (6, _), (7, _), (8, _), (18, _), (19, _), (20, _)]) ⟨rfl, rfl, rfl, rfl, rfl, rfl, rfl, rfl, trivial⟩ ?_
      refine GE_plain (.st 0 (.st 1 .nil)) rfl ?_
      refine GT_st rfl rfl rfl rfl (V_move rfl rfl) ?_
      refine GT_st rfl rfl rfl rfl (V_assign rfl rfl) ?_
      refine GT_nil ?_
      refine GE_block ?_
      refine GE_to (GE_loop (ι := Nat × Nat × Box) (fun z => z.2.1) (fun z => [(0, .slice A l.length c), (4, .slice y.1 l.length y.2.1), (6, .slice u.1 ((List.range i).map (fld l)).length u.2.1), (8, ptr b8 0), (9, I z.2.1), (18, .slice y.1 l.length y.2.1), (19, I l.length), (20, I i)]) (fun z => (b8, blk (eBox z.2.2) 191) :: (u.2.2 ++ y.2.2)) (fun z => (z.2.1 ≤ z.1 ∧ z.1 ≤ i) ∧ fld l i = fldq l (flat l) z.1 z.2.1 z.2.2 ∧ bdB (2000000 + 4000000 * ((i : Int) - z.1)) z.2.2) ?_ (i, i, (flat l).getD i default) ?_) ⟨rfl, rfl, rfl, rfl, rfl, rfl, rfl, rfl, trivial⟩ (HS.cons rfl (HS.chunk HS.last))
      · rintro ⟨n, k, b⟩ ⟨⟨hkn, hni⟩, hf, hb⟩ ih2; dsimp only at hkn hni hf hb ih2 ⊢
        refine GE_seq ?_
        refine GE_seq ?_
        refine GE_plain (.st 0 (.st 1 .nil)) rfl ?_
        refine GT_st rfl rfl rfl rfl (V_move rfl rfl) ?_
        refine GT_st rfl rfl rfl rfl (V_gtr rfl rfl rfl) ?_
        refine GT_nil ?_
        first | refine GE_condNot rfl (fun q2 => ?_) (fun q2 => ?_) | refine GE_cond rfl (fun q2 => ?_) (fun q2 => ?_) | refine GE_condNotB rfl (fun q2 => ?_) (fun q2 => ?_) | refine GE_condB rfl (fun q2 => ?_) (fun q2 => ?_)
        · have hk0 : 0 < k := (by omega); have hkl : k < l.length := (by omega); obtain ⟨⟨o1, o2⟩, o3, o4⟩ := hN.rest k hk0 hkl; have hol : (l.getD k default).on.toNat < (flat l).length := (by omega); have hfb := flat_bd hN (i := (l.getD k default).on.toNat) (by omega); have hob := over_bd (e := (l.getD k default).edge) hb hfb; have hb2 : bdB 100000000 b := (by unfold bdB at hb ⊢; omega); have hfb2 : bdB 100000000 ((flat l).getD (l.getD k default).on.toNat default) := (by unfold bdB at hfb ⊢; omega)
          refine GE_skip ?_
          refine GE_seq ?_
          refine GE_block ?_
          refine GE_drawn (.st 0 (.st 1 (.st 2 (.st 3 (.st 4 (.st 5 (.st 6 (.st 7 (.st 8 (.st 9 (.st 10 (.st 11 (.st 12 (.st 13 (.ld 14 [] (.ld 15 [] .nil)))))))))))))))) [14, 15] (by decide +kernel) ?_
          refine GT_st rfl rfl rfl rfl (V_loadN (vs := [_, _, _, _, _]) rfl rfl ag_191 sz_191 rfl (CellsAt.item rfl)) ?_
          refine GT_st rfl rfl rfl rfl (V_move rfl rfl) ?_
          refine GT_st rfl rfl rfl rfl (V_move rfl rfl) ?_
          refine GT_st rfl rfl rfl rfl (V_move rfl rfl) ?_
          refine GT_st rfl rfl rfl rfl (V_index rfl rfl rfl Tryz.underlying83 sz_82 (k := k) rfl hkl (hr.isSome hkl)) ?_
          first | refine GT_st rfl rfl rfl rfl (V_field rfl rfl fo_82_0) ?_ | refine GT_st rfl rfl rfl rfl (V_fieldA rfl rfl fo_82_0) ?_
          refine GT_st rfl rfl rfl rfl (V_load rfl rfl ag_3 (show CellAt _ _ _ (I (l.getD k default).on) from hr.at0 noM hkl rfl)) ?_
          refine GT_st rfl rfl rfl rfl (V_index rfl rfl rfl Tryz.underlying186 sz_191 (k := (l.getD k default).on.toNat) (by omega) (by omega) (hy.isSome hol)) ?_
          refine GT_st rfl rfl rfl rfl (V_loadN (vs := [_, _, _, _, _]) rfl rfl ag_191 sz_191 rfl (show CellsAt _ _ _ (eBox ((flat l).getD (l.getD k default).on.toNat default)) from CellsAt.own hy eBox_len hol)) ?_
          refine GT_st rfl rfl rfl rfl (V_move rfl rfl) ?_
          refine GT_st rfl rfl rfl rfl (V_move rfl rfl) ?_
          refine GT_st rfl rfl rfl rfl (V_index rfl rfl rfl Tryz.underlying83 sz_82 (k := k) rfl hkl (hr.isSome hkl)) ?_
          first | refine GT_st rfl rfl rfl rfl (V_field rfl rfl fo_82_1) ?_ | refine GT_st rfl rfl rfl rfl (V_fieldA rfl rfl fo_82_1) ?_
          refine GT_st rfl rfl rfl rfl (V_load rfl rfl ag_3 (show CellAt _ _ _ (I (l.getD k default).edge) from hr.at1 (j := 1) noM hkl rfl)) ?_
          refine GT_call0 rfl rfl rfl rfl rfl rfl rfl rfl rn_137 (fun w hw => C_over (b := b) (c := (flat l).getD (l.getD k default).on.toNat default) hb2 hfb2) (GR_nil) ?_
          refine GT_store (vs := [_, _, _, _, _]) (l' := [_, _, _, _, _]) rfl rfl rfl rfl rfl rfl rfl sz_191 rfl rfl (Nat.le_of_ble_eq_true rfl) rfl (GR_nil) ?_
          refine GT_nil ?_
          refine GE_inBlock ?_
          refine GE_slots (L' := [(0, _), (4, _), (6, _), (8, _), (9, _), (18, _), (19, _), (20, _)]) ⟨rfl, rfl, rfl, rfl, rfl, rfl, rfl, rfl, trivial⟩ ?_
          refine GE_plain (.st 0 (.st 1 (.st 2 (.st 3 (.st 4 (.ld 5 [] .nil)))))) rfl ?_
          refine GT_st rfl rfl rfl rfl (V_move rfl rfl) ?_
          refine GT_st rfl rfl rfl rfl (V_move rfl rfl) ?_
          refine GT_st rfl rfl rfl rfl (V_index rfl rfl rfl Tryz.underlying83 sz_82 (k := k) rfl hkl (hr.isSome hkl)) ?_
          first | refine GT_st rfl rfl rfl rfl (V_field rfl rfl fo_82_0) ?_ | refine GT_st rfl rfl rfl rfl (V_fieldA rfl rfl fo_82_0) ?_
          refine GT_st rfl rfl rfl rfl (V_load rfl rfl ag_3 (show CellAt _ _ _ (I (l.getD k default).on) from hr.at0 noM hkl rfl)) ?_
          refine GT_ldv rfl rfl rfl rfl rfl (V_assign rfl rfl) (GR_nil) ?_
          refine GT_nil ?_
          exact GE_to (ih2 (n - 1, (l.getD k default).on.toNat, overB b ((flat l).getD (l.getD k default).on.toNat default) (l.getD k default).edge) ⟨⟨by dsimp only; omega, by dsimp only; omega⟩, by dsimp only; rw [hf, fldq_s _ _ _ hk0 hkn], by dsimp only; unfold bdB at hob ⊢; omega⟩ (by dsimp only; omega)) ⟨rfl, rfl, rfl, rfl, lookI rfl (by dsimp only; omega), rfl, rfl, rfl, trivial⟩ (HS.cons rfl (HS.chunk HS.last))
        · obtain rfl : k = 0 := (by omega); rw [fldq_0] at hf; subst hf
          refine GE_exit rfl ?_
          refine GE_plain (.st 0 (.st 1 (.ld 2 [] (.ld 3 [] (.ld 4 [] .nil))))) rfl ?_
          refine GT_st rfl rfl rfl rfl (V_move rfl rfl) ?_
          refine GT_st rfl rfl rfl rfl (V_loadN (vs := [_, _, _, _, _]) rfl rfl ag_191 sz_191 rfl (CellsAt.item rfl)) ?_
          refine GT_buildSlice (z := [_, _, _, _, _]) rfl rfl rfl rfl rfl Tryz.underlying186 zc_191 sz_191 (by decide) rfl rfl (fun _ => GR_nil) (fun b50 => ?_)
          refine GT_append (enc := eBox) (l := (List.range i).map (fld l)) (m := [fld l i]) rfl rfl rfl rfl rfl rfl rfl hO (fun w m => RdL.own' m eBox_len) Tryz.underlying186 zc_191 sz_191 ⟨rfl, by decide⟩ by_191 ⟨by rw [hml]; simp only [List.length_singleton]; omega, by rw [hml]; simp only [List.length_singleton]; omega⟩ eBox_len eBox_one (fun _ _ _ _ => GR_nil) (fun A3 c3 I3 hO3 => ?_)
          refine GT_ldv rfl rfl rfl rfl rfl (V_assign rfl rfl) (GR_nil) ?_
          refine GT_nil ?_
          refine GE_inBlock ?_
          refine GE_slots (L' := [(0, _), (4, _), (6, _), (18, _), (19, _), (20, _)]) ⟨rfl, rfl, rfl, rfl, rfl, rfl, trivial⟩ ?_
          refine GE_plain (.st 0 (.ld 1 [] .nil)) rfl ?_
          refine GT_st rfl rfl rfl rfl (V_add rfl rfl rfl (wrap_i64 (by omega))) ?_
          refine GT_ldv rfl rfl rfl rfl rfl (V_move rfl rfl) (GR_nil) ?_
          refine GT_nil ?_
          exact GE_to (ih (i + 1, (A3, c3, I3)) ⟨by dsimp only; omega, by dsimp only; rw [List.range_succ, List.map_append]; exact hO3⟩ (by dsimp only; omega)) ⟨rfl, rfl, by dsimp only; rw [List.range_succ, List.map_append]; rfl, rfl, rfl, rfl, trivial⟩ (HS.chunk HS.last)
      · exact ⟨⟨Nat.le_refl _, Nat.le_refl _⟩, rfl, by have := flat_bd hN hil; unfold bdB at this ⊢; dsimp only; omega⟩
    · obtain rfl : i = l.length := (by omega)
      refine GE_exit rfl ?_
      refine GE_seq ?_
      refine GE_slots (L' := [(6, _)]) ⟨rfl, trivial⟩ ?_
      refine GE_plain (.st 0 (.st 1 (.st 2 .nil))) rfl ?_
      refine GT_st rfl rfl rfl rfl (V_move rfl rfl) ?_
      refine GT_st rfl rfl rfl rfl (V_assign rfl rfl) ?_
      refine GT_st rfl rfl rfl rfl (V_assign rfl rfl) ?_
      refine GT_nil ?_
      refine GE_ret Tryz.func79 ⟨_, _, rfl, rfl, rfl⟩ (fun w hw => ?_)
      have e : ((List.range l.length).map (fld l)).length = l.length := (by simp); rw [e] at hO ⊢; exact ⟨u, hO, rfl, hw.hs (C := cx Tryz.prog hm 0 0 _ none' fun _ _ => True) HS.last⟩
  · exact ⟨Nat.zero_le _, Own.nil⟩
theorem C_patches {bs : List Box} {n : Nat} {e : Int} (hn : n = bs.length) (hr : RdL w 5 eBox A bs) (hl : bs.length ≤ 1000) : Con Tryz.prog 81 [.slice A n c, I e] w (fun y : Option Addr × Nat × Items => Own 5 85 eBox bs (.slice y.1 bs.length y.2.1) y.2.2) (fun y => .tuple #[.slice y.1 bs.length y.2.1, I e]) (fun y => y.2.2) := by
  subst hn
  refine Ret_of (vs := [_, _]) hm none' Tryz.func81 rfl Tryz.ntmps81 rfl ?_
  dsimp only [slotsOf]
  refine GE_seq ?_
  refine GE_plain (.st 0 (.st 1 .nil)) rfl ?_
  refine GT_st rfl rfl rfl rfl (V_assign rfl rfl) ?_
  refine GT_st rfl rfl rfl rfl (V_assign rfl rfl) ?_
  refine GT_nil ?_
  refine GE_seq ?_
  refine GE_plain (.st 0 .nil) rfl ?_
  refine GT_st rfl rfl rfl rfl (V_assign rfl rfl) ?_
  refine GT_nil ?_
  refine GE_seq ?_
  refine GE_seq ?_
  refine GE_plain (.st 0 (.st 1 (.st 2 .nil))) rfl ?_
  refine GT_st rfl rfl rfl rfl (V_move rfl rfl) ?_
  refine GT_st rfl rfl rfl rfl (V_len rfl Tryz.underlying186 rfl) ?_
  refine GT_st rfl rfl rfl rfl (V_move rfl rfl) ?_
  refine GT_nil ?_
  refine GE_block ?_
  refine GE_to (GE_loop (ι := Nat × (Option Addr × Nat × Items)) (fun z => bs.length - z.1) (fun z => [(1, I e), (6, .slice z.2.1 (bs.take z.1).length z.2.2.1), (9, .slice A bs.length c), (10, I bs.length), (11, I z.1)]) (fun z => z.2.2.2) (fun z => z.1 ≤ bs.length ∧ Own 5 85 eBox (bs.take z.1) (.slice z.2.1 (bs.take z.1).length z.2.2.1) z.2.2.2) ?_ (0, (none, 0, [])) ?_) ⟨rfl, rfl, rfl, rfl, rfl, trivial⟩ HS.nil
  · rintro ⟨k, y⟩ ⟨hk, hO⟩ ih; dsimp only at hk hO ih ⊢
    refine GE_seq ?_
    refine GE_plain (.st 0 .nil) rfl ?_
    refine GT_st rfl rfl rfl rfl (V_lss rfl rfl rfl) ?_
    refine GT_nil ?_
    refine GE_seq ?_
    first | refine GE_condNot rfl (fun q1 => ?_) (fun q1 => ?_) | refine GE_cond rfl (fun q1 => ?_) (fun q1 => ?_) | refine GE_condNotB rfl (fun q1 => ?_) (fun q1 => ?_) | refine GE_condB rfl (fun q1 => ?_) (fun q1 => ?_)
    · have hkl : k < bs.length := (by omega); have htl : (bs.take k).length = k := (by rw [List.length_take]; omega); have htk : bs.take (k + 1) = bs.take k ++ [bs.getD k default] := (by rw [List.take_succ_eq_append_getElem hkl]; simp [List.getD, hkl])
      refine GE_skip ?_
      refine GE_seq ?_
      refine GE_block ?_
      refine GE_seq ?_
      refine GE_plain (.st 0 (.st 1 (.ld 2 [] (.ld 3 [] .nil)))) rfl ?_
      refine GT_st rfl rfl rfl rfl (V_index rfl rfl rfl Tryz.underlying186 sz_191 (k := k) rfl hkl (hr.isSome hkl)) ?_
      refine GT_st rfl rfl rfl rfl (V_loadN (vs := [_, _, _, _, _]) rfl rfl ag_191 sz_191 rfl (show CellsAt _ _ _ (eBox (bs.getD k default)) from hr.ats noM hkl)) ?_
      refine GT_alloc rfl rfl rfl rfl rfl zc_191 (fun _ => GR_nil) (fun b8 => ?_)
      refine GT_store (vs := [_, _, _, _, _]) (l' := [_, _, _, _, _]) rfl rfl rfl rfl rfl rfl rfl sz_191 rfl rfl (Nat.le_of_ble_eq_true rfl) rfl (GR_nil) ?_
      refine GT_nil ?_
      refine GE_plain (.st 0 (.st 1 (.st 2 (.ld 3 [] (.ld 4 [] (.ld 5 [] .nil)))))) rfl ?_
      refine GT_st rfl rfl rfl rfl (V_move rfl rfl) ?_
      first | refine GT_st rfl rfl rfl rfl (V_field rfl rfl fo_191_0) ?_ | refine GT_st rfl rfl rfl rfl (V_fieldA rfl rfl fo_191_0) ?_
      refine GT_st rfl rfl rfl rfl (V_loadN (vs := [_, _, _, _, _]) rfl rfl ag_85 sz_85 rfl (CellsAt.item rfl)) ?_
      refine GT_buildSlice (z := [_, _, _, _, _]) rfl rfl rfl rfl rfl Tryz.underlying88 zc_85 sz_85 (by decide) rfl rfl (fun _ => GR_nil) (fun b18 => ?_)
      refine GT_append (enc := eBox) (l := bs.take k) (m := [bs.getD k default]) rfl rfl rfl rfl rfl rfl rfl hO (fun w m => RdL.own' m eBox_len) Tryz.underlying88 zc_85 sz_85 ⟨rfl, by decide⟩ by_85 ⟨by rw [htl]; simp only [List.length_singleton]; omega, by rw [htl]; simp only [List.length_singleton]; omega⟩ eBox_len eBox_one (fun _ _ _ _ => GR_nil) (fun A3 c3 I3 hO3 => ?_)
      refine GT_ldv rfl rfl rfl rfl rfl (V_assign rfl rfl) (GR_nil) ?_
      refine GT_nil ?_
      refine GE_inBlock ?_
      refine GE_slots (L' := [(1, _), (6, _), (9, _), (10, _), (11, _)]) ⟨rfl, rfl, rfl, rfl, rfl, trivial⟩ ?_
      refine GE_plain (.st 0 (.ld 1 [] .nil)) rfl ?_
      refine GT_st rfl rfl rfl rfl (V_add rfl rfl rfl (wrap_i64 (by omega))) ?_
      refine GT_ldv rfl rfl rfl rfl rfl (V_move rfl rfl) (GR_nil) ?_
      refine GT_nil ?_
      exact GE_to (ih (k + 1, (A3, c3, I3)) ⟨by dsimp only; omega, by dsimp only; rw [htk]; exact hO3⟩ (by dsimp only; omega)) ⟨rfl, by dsimp only; rw [htk]; rfl, rfl, rfl, rfl, trivial⟩ HS.last
    · obtain rfl : k = bs.length := (by omega); rw [List.take_length] at hO ⊢
      refine GE_exit rfl ?_
      refine GE_seq ?_
      refine GE_slots (L' := [(1, _), (6, _)]) ⟨rfl, rfl, trivial⟩ ?_
      refine GE_plain (.st 0 (.st 1 (.st 2 (.st 3 .nil)))) rfl ?_
      refine GT_st rfl rfl rfl rfl (V_move rfl rfl) ?_
      refine GT_st rfl rfl rfl rfl (V_move rfl rfl) ?_
      refine GT_st rfl rfl rfl rfl (V_assign rfl rfl) ?_
      refine GT_st rfl rfl rfl rfl (V_assign rfl rfl) ?_
      refine GT_nil ?_
      refine GE_ret Tryz.func81 ⟨_, _, rfl, rfl, rfl⟩ (fun w hw => ?_)
      exact ⟨y, hO, rfl, hw.hs (C := cx Tryz.prog hm 0 0 _ none' fun _ _ => True) HS.last⟩
  · exact ⟨Nat.zero_le _, Own.nil⟩
theorem folded_len (l : List Pan) : (folded l).length = l.length := by simp [folded]
theorem C_Folded (hr : RdL w 5 ePan A l) (hN : NetOk l) : Con Tryz.prog 32 [.slice A l.length c] w (fun y : Option Addr × Nat × Items => Own 5 85 eBox (folded l) (.slice y.1 (folded l).length y.2.1) y.2.2) (fun y => .tuple #[.slice y.1 (folded l).length y.2.1, I 0]) (fun y => y.2.2) := by
  have hl2 := hN.len
  refine Ret_of (vs := [_]) hm none' Tryz.func32 rfl Tryz.ntmps32 rfl ?_
  dsimp only [slotsOf]
  refine GE_seq ?_
  refine GE_plain (.st 0 (.st 1 .nil)) rfl ?_
  refine GT_st rfl rfl rfl rfl (V_assign rfl rfl) ?_
  refine GT_st rfl rfl rfl rfl (V_assign rfl rfl) ?_
  refine GT_nil ?_
  refine GE_seq ?_
  refine GE_plain (.st 0 (.ld 1 [] (.st 2 (.st 3 (.ld 4 [] (.st 5 (.st 6 (.st 7 (.st 8 .nil))))))))) rfl ?_
  refine GT_st rfl rfl rfl rfl (V_move rfl rfl) ?_
  refine GT_call rfl rfl rfl rfl rfl rfl rfl rfl rn_79 (fun w hw => C_folded (hr.sh hw) hN) (fun _ _ => GR_nil) (fun y hy => ?_)
  have hy2 : Own 5 191 eBox (folded l) (.slice y.1 (folded l).length y.2.1) y.2.2 := (by rw [folded_len]; exact hy)
  refine GT_st rfl rfl rfl rfl (V_extract rfl rfl rfl) ?_
  refine GT_st rfl rfl rfl rfl (V_extract rfl rfl rfl) ?_
  refine GT_call rfl rfl rfl rfl rfl rfl rfl rfl rn_81 (fun w hw => C_patches (bs := folded l) (n := l.length) (e := 0) (folded_len l).symm (hy2.rdH eBox_len hw) (by rw [folded_len]; omega)) (fun _ _ => GR_nil) (fun z hz => ?_)
  refine GT_st rfl rfl rfl rfl (V_extract rfl rfl rfl) ?_
  refine GT_st rfl rfl rfl rfl (V_extract rfl rfl rfl) ?_
  refine GT_st rfl rfl rfl rfl (V_assign rfl rfl) ?_
  refine GT_st rfl rfl rfl rfl (V_assign rfl rfl) ?_
  refine GT_nil ?_
  refine GE_ret Tryz.func32 ⟨_, _, rfl, rfl, rfl⟩ (fun w hw => ?_)
  exact ⟨z, hz, rfl, hw.hs (C := cx Tryz.prog hm 0 0 _ none' fun _ _ => True) (HS.last (I := z.2.2))⟩
end
end Go.Proofs.YtpbflnfcgcldkaaGreatDoor.Net
/- Pockets and layers, walked. -/
namespace Go.Proofs.YtpbflnfcgcldkaaGreatDoor.Net
open Go.Sx Go.Proofs Go.RowKit
open Side (getD_memT sh_trans own_le)
theorem fldq_bd {l : List Pan} (h : NetOk l) : ∀ (n k : Nat) (b : Box) (B : Int), k ≤ n → k < l.length → 0 ≤ B → bdB B b → bdB (B + 4000000 * n) (fldq l (flat l) n k b)
  | 0, _, b, B, _, _, _, hb => by unfold fldq bdB at *; omega
  | n + 1, k, b, B, hk, hkl, hB, hb => by
    by_cases e : k = 0
    · rw [fldq, if_pos e]; unfold bdB at *; omega
    · rw [fldq, if_neg e]
      have hr := (h.rest k (by omega) hkl).1
      have ho := over_bd (e := (l.getD k default).edge) hb (flat_bd h (i := (l.getD k default).on.toNat) (by omega))
      have := fldq_bd h n (l.getD k default).on.toNat _ (B + 4000000) (by omega) (by omega) (by omega) ho
      unfold bdB at *; omega
theorem fld_bd {l : List Pan} (h : NetOk l) {i : Nat} (hi : i < l.length) : bdB 100000000 (fld l i) := by
  have := fldq_bd h i i _ 2000000 (Nat.le_refl _) hi (by omega) (flat_bd h hi)
  have hl := h.len
  unfold fld; unfold bdB at *; omega
theorem folded_get {l : List Pan} {i : Nat} (hi : i < l.length) : (folded l).getD i default = fld l i := by simp [folded, List.getD, hi]
def inB (b : Box) (x y : Int) : Prop := ((b.x0 ≤ x ∧ x < b.x1) ∧ b.y0 ≤ y) ∧ y < b.y1
instance (b : Box) (x y : Int) : Decidable (inB b x y) := by unfold inB; infer_instance
def lyq (f : List Box) (x y : Int) : Nat → Int
  | 0 => 0
  | k + 1 => lyq f x y k + (if inB (f.getD k default) x y then 1 else 0)
theorem lyq_bd (f : List Box) (x y : Int) : ∀ k, 0 ≤ lyq f x y k ∧ lyq f x y k ≤ k
  | 0 => by unfold lyq; omega
  | k + 1 => by have := lyq_bd f x y k; rw [lyq]; split <;> omega
def pkX (l : List Pan) : Int := max (fld l 0).x0 (fld l 1).x0
def pkY (l : List Pan) : Int := max (fld l 0).y0 (fld l 1).y0
section
variable {w : World} {A : Option Addr} {c : Nat} {l : List Pan} {x y : Int}
set_option maxRecDepth 20000 in
set_option maxHeartbeats 1000000 in
theorem C_Pocket (hr : RdL w 5 ePan A l) (hN : NetOk l) (h2 : 2 ≤ l.length) (hc : 0 < comW (fld l 0) (fld l 1) ∧ 0 < comH (fld l 0) (fld l 1)) :
    Con0 Tryz.prog 31 [.slice A l.length c, I 0, I 1] w (.tuple #[.agg #[I (pkX l), I (pkY l), I (pkX l + comW (fld l 0) (fld l 1)), I (pkY l + comH (fld l 0) (fld l 1)), .bool false], I 0]) := by
  have hl2 := hN.len
  have h0 := fld_bd hN (i := 0) (by omega)
  have h1 := fld_bd hN (i := 1) (by omega)
  have g0 := folded_get (l := l) (i := 0) (by omega)
  have g1 := folded_get (l := l) (i := 1) (by omega)
  have gl := folded_len l
  have h0' := h0; have h1' := h1
  obtain ⟨a1, a2, a3, a4⟩ := h0'
  obtain ⟨b1', b2', b3', b4'⟩ := h1'
  have wb : -200000000 ≤ comW (fld l 0) (fld l 1) ∧ comW (fld l 0) (fld l 1) ≤ 200000000 := by unfold comW; omega
  have hb : -200000000 ≤ comH (fld l 0) (fld l 1) ∧ comH (fld l 0) (fld l 1) ≤ 200000000 := by unfold comH; omega
  refine Ret_of (vs := [_, _, _]) hm none' Tryz.func31 rfl Tryz.ntmps31 rfl ?_
  dsimp only [slotsOf]
  refine GE_seq ?_
  refine GE_plain (.ld 0 [] (.st 1 .nil)) rfl ?_
  refine GT_alloc rfl rfl rfl rfl rfl zc_85 (fun _ => GR_nil) (fun b6 => ?_)
  refine GT_st rfl rfl rfl rfl (V_assign rfl rfl) ?_
  refine GT_nil ?_
  refine GE_seq ?_
  refine GE_plain (.st 0 (.ld 1 [] (.st 2 (.st 3 (.st 4 (.st 5 (.st 6 .nil))))))) rfl ?_
  refine GT_st rfl rfl rfl rfl (V_move rfl rfl) ?_
  refine GT_call rfl rfl rfl rfl rfl rfl rfl rfl rn_79 (fun w hw => C_folded (hr.sh hw) hN) (fun _ _ => GR_nil) (fun y hy => ?_)
  have hy2 : Own 5 191 eBox (folded l) (.slice y.1 l.length y.2.1) y.2.2 := hy
  refine GT_st rfl rfl rfl rfl (V_move rfl rfl) ?_
  refine GT_st rfl rfl rfl rfl (V_extract rfl rfl rfl) ?_
  refine GT_st rfl rfl rfl rfl (V_extract rfl rfl rfl) ?_
  refine GT_st rfl rfl rfl rfl (V_assign rfl rfl) ?_
  refine GT_st rfl rfl rfl rfl (V_assign rfl rfl) ?_
  refine GT_nil ?_
  refine GE_seq ?_
  refine GE_seq ?_
  refine GE_slots (L' := [(1, _), (2, _), (6, _), (8, _), (9, _)]) ⟨rfl, rfl, rfl, rfl, rfl, trivial⟩ ?_
  refine GE_plain (.st 0 (.st 1 .nil)) rfl ?_
  refine GT_st rfl rfl rfl rfl (V_move rfl rfl) ?_
  refine GT_st rfl rfl rfl rfl (V_isF (V_neq rfl rfl rfl) (fun q => q rfl)) ?_
  refine GT_nil ?_
  refine GE_cond_f rfl ?_
  refine GE_skip ?_
  refine GE_seq ?_
  refine GE_seq ?_
  refine GE_plain (.st 0 (.st 1 (.st 2 (.st 3 (.st 4 (.st 5 (.st 6 (.st 7 (.st 8 (.st 9 (.st 10 (.st 11 (.st 12 (.st 13 (.st 14 (.st 15 (.st 16 .nil))))))))))))))))) rfl ?_
  refine GT_st rfl rfl rfl rfl (V_move rfl rfl) ?_
  refine GT_st rfl rfl rfl rfl (V_move rfl rfl) ?_
  refine GT_st rfl rfl rfl rfl (V_min rfl rfl rfl) ?_
  refine GT_st rfl rfl rfl rfl (V_isF (V_lss rfl rfl rfl) (by decide)) ?_
  refine GT_st rfl rfl rfl rfl (V_move rfl rfl) ?_
  refine GT_st_g rfl rfl rfl rfl rfl rfl rfl (V_move rfl rfl) ?_
  refine GT_st_g rfl rfl rfl rfl rfl rfl rfl (V_move rfl rfl) ?_
  refine GT_st_g rfl rfl rfl rfl rfl rfl rfl (V_max rfl rfl rfl) ?_
  refine GT_st_g rfl rfl rfl rfl rfl rfl rfl (V_move rfl rfl) ?_
  refine GT_st_g rfl rfl rfl rfl rfl rfl rfl (V_len rfl Tryz.underlying186 rfl) ?_
  refine GT_st_g rfl rfl rfl rfl rfl rfl rfl (V_isF (V_geq rfl rfl rfl) (show ¬ ((l.length : Nat) : Int) ≤ max 0 1 by omega)) ?_
  refine GT_st rfl rfl rfl rfl (V_pick_f rfl rfl rfl) ?_
  refine GT_st rfl rfl rfl rfl (V_move rfl rfl) ?_
  refine GT_st_g rfl rfl rfl rfl rfl rfl rfl (V_move rfl rfl) ?_
  refine GT_st_g rfl rfl rfl rfl rfl rfl rfl (V_move rfl rfl) ?_
  refine GT_st_g rfl rfl rfl rfl rfl rfl rfl (V_isF (V_eql rfl rfl rfl) (by decide)) ?_
  refine GT_st rfl rfl rfl rfl (V_pick_f rfl rfl rfl) ?_
  refine GT_nil ?_
  refine GE_cond_f rfl ?_
  refine GE_skip ?_
  refine GE_seq ?_
  refine GE_slots (L' := [(1, _), (2, _), (6, _), (8, _)]) ⟨rfl, rfl, rfl, rfl, trivial⟩ ?_
  refine GE_drawn (.st 0 (.st 1 (.st 2 (.st 3 (.st 4 (.st 5 (.st 6 (.st 7 (.ld 8 [] (.st 9 (.st 10 (.st 11 (.st 12 (.st 13 .nil)))))))))))))) [8] (by decide +kernel) ?_
  refine GT_st rfl rfl rfl rfl (V_move rfl rfl) ?_
  refine GT_st rfl rfl rfl rfl (V_move rfl rfl) ?_
  refine GT_st rfl rfl rfl rfl (V_index rfl rfl rfl Tryz.underlying186 sz_191 (k := 0) rfl (by omega) (hy.isSome (k := 0) (by omega))) ?_
  refine GT_st rfl rfl rfl rfl (V_loadN (vs := [_, _, _, _, _]) rfl rfl ag_191 sz_191 rfl (show CellsAt _ _ _ (eBox (fld l 0)) from CellsAt.ownE hy eBox_len (k := 0) (by omega) (by rw [g0]))) ?_
  refine GT_st rfl rfl rfl rfl (V_move rfl rfl) ?_
  refine GT_st rfl rfl rfl rfl (V_move rfl rfl) ?_
  refine GT_st rfl rfl rfl rfl (V_index rfl rfl rfl Tryz.underlying186 sz_191 (k := 1) rfl (by omega) (hy.isSome (k := 1) (by omega))) ?_
  refine GT_st rfl rfl rfl rfl (V_loadN (vs := [_, _, _, _, _]) rfl rfl ag_191 sz_191 rfl (show CellsAt _ _ _ (eBox (fld l 1)) from CellsAt.ownE hy eBox_len (k := 1) (by omega) (by rw [g1]))) ?_
  refine GT_call0 rfl rfl rfl rfl rfl rfl rfl rfl rn_80 (fun w hw => C_common (b := fld l 0) (c := fld l 1) h0 h1) (GR_nil) ?_
  refine GT_st rfl rfl rfl rfl (V_move rfl rfl) ?_
  refine GT_st rfl rfl rfl rfl (V_extract rfl rfl rfl) ?_
  refine GT_st rfl rfl rfl rfl (V_extract rfl rfl rfl) ?_
  refine GT_st rfl rfl rfl rfl (V_assign rfl rfl) ?_
  refine GT_st rfl rfl rfl rfl (V_assign rfl rfl) ?_
  refine GT_nil ?_
  refine GE_seq ?_
  refine GE_seq ?_
  refine GE_slots (L' := [(1, _), (2, _), (6, _), (8, _), (10, _), (11, _)]) ⟨rfl, rfl, rfl, rfl, rfl, rfl, trivial⟩ ?_
  refine GE_plain (.st 0 (.st 1 (.st 2 (.st 3 .nil)))) rfl ?_
  refine GT_st rfl rfl rfl rfl (V_move rfl rfl) ?_
  refine GT_st rfl rfl rfl rfl (V_move rfl rfl) ?_
  refine GT_st rfl rfl rfl rfl (V_min rfl rfl rfl) ?_
  refine GT_st rfl rfl rfl rfl (V_isF (V_leq rfl rfl rfl) (by omega)) ?_
  refine GT_nil ?_
  refine GE_cond_f rfl ?_
  refine GE_skip ?_
  refine GE_seq ?_
  refine GE_slots (L' := [(1, _), (2, _), (6, _), (8, _), (10, _), (11, _)]) ⟨rfl, rfl, rfl, rfl, rfl, rfl, trivial⟩ ?_
  refine GE_drawn (.st 0 (.st 1 (.st 2 (.st 3 (.st 4 (.st 5 (.st 6 (.st 7 (.st 8 (.st 9 (.st 10 (.st 11 (.st 12 (.st 13 (.st 14 (.st 15 (.st 16 (.st 17 (.st 18 (.st 19 (.st 20 (.st 21 (.st 22 (.st 23 (.st 24 (.st 25 (.st 26 (.st 27 .nil)))))))))))))))))))))))))))) [] (by decide +kernel) ?_
  refine GT_st rfl rfl rfl rfl (V_move rfl rfl) ?_
  refine GT_st rfl rfl rfl rfl (V_move rfl rfl) ?_
  refine GT_st rfl rfl rfl rfl (V_index rfl rfl rfl Tryz.underlying186 sz_191 (k := 0) rfl (by omega) (hy.isSome (k := 0) (by omega))) ?_
  first | refine GT_st rfl rfl rfl rfl (V_field rfl rfl fo_191_0) ?_ | refine GT_st rfl rfl rfl rfl (V_fieldA rfl rfl fo_191_0) ?_
  first | refine GT_st rfl rfl rfl rfl (V_field rfl rfl fo_85_0) ?_ | refine GT_st rfl rfl rfl rfl (V_fieldA rfl rfl fo_85_0) ?_
  refine GT_st rfl rfl rfl rfl (V_load rfl rfl ag_2 (show CellAt _ _ _ (I (fld l 0).x0) from CellAt.own0 (k := 0) hy eBox_len (by omega) (by rw [g0]; rfl))) ?_
  refine GT_st rfl rfl rfl rfl (V_move rfl rfl) ?_
  refine GT_st rfl rfl rfl rfl (V_move rfl rfl) ?_
  refine GT_st rfl rfl rfl rfl (V_index rfl rfl rfl Tryz.underlying186 sz_191 (k := 1) rfl (by omega) (hy.isSome (k := 1) (by omega))) ?_
  first | refine GT_st rfl rfl rfl rfl (V_field rfl rfl fo_191_0) ?_ | refine GT_st rfl rfl rfl rfl (V_fieldA rfl rfl fo_191_0) ?_
  first | refine GT_st rfl rfl rfl rfl (V_field rfl rfl fo_85_0) ?_ | refine GT_st rfl rfl rfl rfl (V_fieldA rfl rfl fo_85_0) ?_
  refine GT_st rfl rfl rfl rfl (V_load rfl rfl ag_2 (show CellAt _ _ _ (I (fld l 1).x0) from CellAt.own0 (k := 1) hy eBox_len (by omega) (by rw [g1]; rfl))) ?_
  refine GT_st rfl rfl rfl rfl (V_max rfl rfl rfl) ?_
  refine GT_st rfl rfl rfl rfl (V_move rfl rfl) ?_
  refine GT_st rfl rfl rfl rfl (V_move rfl rfl) ?_
  refine GT_st rfl rfl rfl rfl (V_index rfl rfl rfl Tryz.underlying186 sz_191 (k := 0) rfl (by omega) (hy.isSome (k := 0) (by omega))) ?_
  first | refine GT_st rfl rfl rfl rfl (V_field rfl rfl fo_191_0) ?_ | refine GT_st rfl rfl rfl rfl (V_fieldA rfl rfl fo_191_0) ?_
  first | refine GT_st rfl rfl rfl rfl (V_field rfl rfl fo_85_1) ?_ | refine GT_st rfl rfl rfl rfl (V_fieldA rfl rfl fo_85_1) ?_
  refine GT_st rfl rfl rfl rfl (V_load rfl rfl ag_2 (show CellAt _ _ _ (I (fld l 0).y0) from CellAt.own (k := 0) (j := 1) hy eBox_len (by omega) (by rw [g0]; rfl))) ?_
  refine GT_st rfl rfl rfl rfl (V_move rfl rfl) ?_
  refine GT_st rfl rfl rfl rfl (V_move rfl rfl) ?_
  refine GT_st rfl rfl rfl rfl (V_index rfl rfl rfl Tryz.underlying186 sz_191 (k := 1) rfl (by omega) (hy.isSome (k := 1) (by omega))) ?_
  first | refine GT_st rfl rfl rfl rfl (V_field rfl rfl fo_191_0) ?_ | refine GT_st rfl rfl rfl rfl (V_fieldA rfl rfl fo_191_0) ?_
  first | refine GT_st rfl rfl rfl rfl (V_field rfl rfl fo_85_1) ?_ | refine GT_st rfl rfl rfl rfl (V_fieldA rfl rfl fo_85_1) ?_
  refine GT_st rfl rfl rfl rfl (V_load rfl rfl ag_2 (show CellAt _ _ _ (I (fld l 1).y0) from CellAt.own (k := 1) (j := 1) hy eBox_len (by omega) (by rw [g1]; rfl))) ?_
  refine GT_st rfl rfl rfl rfl (V_max rfl rfl rfl) ?_
  refine GT_st rfl rfl rfl rfl (V_assign rfl rfl) ?_
  refine GT_st rfl rfl rfl rfl (V_assign rfl rfl) ?_
  refine GT_nil ?_
  refine GE_seq ?_
  refine GE_slots (L' := [(6, _), (10, _), (11, _), (12, _), (13, _)]) ⟨rfl, rfl, rfl, rfl, rfl, trivial⟩ ?_
  refine GE_plain (.st 0 (.st 1 (.st 2 (.st 3 (.st 4 (.st 5 (.st 6 (.st 7 (.st 8 (.ld 9 [] (.st 10 .nil))))))))))) rfl ?_
  refine GT_st rfl rfl rfl rfl (V_move rfl rfl) ?_
  refine GT_st rfl rfl rfl rfl (V_move rfl rfl) ?_
  refine GT_st rfl rfl rfl rfl (V_move rfl rfl) ?_
  refine GT_st rfl rfl rfl rfl (V_move rfl rfl) ?_
  refine GT_st rfl rfl rfl rfl (V_add rfl rfl rfl (wrap_i64 (by omega))) ?_
  refine GT_st rfl rfl rfl rfl (V_move rfl rfl) ?_
  refine GT_st rfl rfl rfl rfl (V_move rfl rfl) ?_
  refine GT_st rfl rfl rfl rfl (V_add rfl rfl rfl (wrap_i64 (by omega))) ?_
  refine GT_st rfl rfl rfl rfl (V_build (vs := [_, _, _, _, _]) rfl rfl zc_85 pl_85 sa_85 rfl) ?_
  refine GT_store (vs := [_, _, _, _, _]) (l' := [_, _, _, _, _]) rfl rfl rfl rfl rfl rfl rfl sz_85 rfl rfl (Nat.le_of_ble_eq_true rfl) rfl (GR_nil) ?_
  refine GT_st rfl rfl rfl rfl (V_assign rfl rfl) ?_
  refine GT_nil ?_
  refine GE_ret Tryz.func31 ⟨_, _, ⟨_, rfl, fun w m => run_loadVar_agg (vs := [_, _, _, _, _]) ag_85 sz_85 rfl (fun j v hj => CellsAt.item rfl j v hj w m)⟩, rfl, rfl⟩ (fun w hw => ⟨?_, hw.nil⟩)
  rfl
set_option maxRecDepth 20000 in
set_option maxHeartbeats 1000000 in
theorem C_Layers (hr : RdL w 5 ePan A l) (hN : NetOk l) : Con0 Tryz.prog 33 [.slice A l.length c, I x, I y] w (.tuple #[I (lyq (folded l) x y l.length), I 0]) := by
  have hl2 := hN.len
  have gl := folded_len l
  refine Ret_of (vs := [_, _, _]) hm none' Tryz.func33 rfl Tryz.ntmps33 rfl ?_
  dsimp only [slotsOf]
  refine GE_seq ?_
  refine GE_plain (.st 0 (.st 1 .nil)) rfl ?_
  refine GT_st rfl rfl rfl rfl (V_assign rfl rfl) ?_
  refine GT_st rfl rfl rfl rfl (V_assign rfl rfl) ?_
  refine GT_nil ?_
  refine GE_seq ?_
  refine GE_plain (.st 0 (.ld 1 [] (.st 2 (.st 3 (.st 4 (.st 5 (.st 6 .nil))))))) rfl ?_
  refine GT_st rfl rfl rfl rfl (V_move rfl rfl) ?_
  refine GT_call rfl rfl rfl rfl rfl rfl rfl rfl rn_79 (fun w hw => C_folded (hr.sh hw) hN) (fun _ _ => GR_nil) (fun u hu => ?_)
  refine GT_st rfl rfl rfl rfl (V_move rfl rfl) ?_
  refine GT_st rfl rfl rfl rfl (V_extract rfl rfl rfl) ?_
  refine GT_st rfl rfl rfl rfl (V_extract rfl rfl rfl) ?_
  refine GT_st rfl rfl rfl rfl (V_assign rfl rfl) ?_
  refine GT_st rfl rfl rfl rfl (V_assign rfl rfl) ?_
  refine GT_nil ?_
  refine GE_seq ?_
  refine GE_slots (L' := [(1, _), (2, _), (8, _), (9, _)]) ⟨rfl, rfl, rfl, rfl, trivial⟩ ?_
  refine GE_plain (.st 0 .nil) rfl ?_
  refine GT_st rfl rfl rfl rfl (V_assign rfl rfl) ?_
  refine GT_nil ?_
  refine GE_seq ?_
  refine GE_seq ?_
  refine GE_plain (.st 0 (.st 1 (.st 2 .nil))) rfl ?_
  refine GT_st rfl rfl rfl rfl (V_move rfl rfl) ?_
  refine GT_st rfl rfl rfl rfl (V_len rfl Tryz.underlying186 rfl) ?_
  refine GT_st rfl rfl rfl rfl (V_move rfl rfl) ?_
  refine GT_nil ?_
  refine GE_block ?_
  refine GE_to (GE_loop (ι := Nat) (fun k => l.length - k) (fun k => [(1, I x), (2, I y), (9, I 0), (10, I (lyq (folded l) x y k)), (18, .slice u.1 l.length u.2.1), (19, I l.length), (20, I k)]) (fun k => u.2.2) (fun k => k ≤ l.length) ?_ 0 ?_) ⟨rfl, rfl, rfl, rfl, rfl, rfl, rfl, trivial⟩ HS.last
  · intro k hk ih
    refine GE_seq ?_
    refine GE_plain (.st 0 .nil) rfl ?_
    refine GT_st rfl rfl rfl rfl (V_lss rfl rfl rfl) ?_
    refine GT_nil ?_
    refine GE_seq ?_
    first | refine GE_condNot rfl (fun q1 => ?_) (fun q1 => ?_) | refine GE_cond rfl (fun q1 => ?_) (fun q1 => ?_) | refine GE_condNotB rfl (fun q1 => ?_) (fun q1 => ?_) | refine GE_condB rfl (fun q1 => ?_) (fun q1 => ?_)
    · have hkl : k < (folded l).length := (by omega); have hlb := lyq_bd (folded l) x y k
      refine GE_skip ?_
      refine GE_seq ?_
      refine GE_block ?_
      refine GE_seq ?_
      refine GE_plain (.st 0 (.st 1 (.ld 2 [] (.ld 3 [] .nil)))) rfl ?_
      refine GT_st rfl rfl rfl rfl (V_index rfl rfl rfl Tryz.underlying186 sz_191 (k := k) rfl (by omega) (hu.isSome hkl)) ?_
      refine GT_st rfl rfl rfl rfl (V_loadN (vs := [_, _, _, _, _]) rfl rfl ag_191 sz_191 rfl (show CellsAt _ _ _ (eBox ((folded l).getD k default)) from CellsAt.own hu eBox_len hkl)) ?_
      refine GT_alloc rfl rfl rfl rfl rfl zc_191 (fun _ => GR_nil) (fun b12 => ?_)
      refine GT_store (vs := [_, _, _, _, _]) (l' := [_, _, _, _, _]) rfl rfl rfl rfl rfl rfl rfl sz_191 rfl rfl (Nat.le_of_ble_eq_true rfl) rfl (GR_nil) ?_
      refine GT_nil ?_
      refine GE_seq ?_
      refine GE_plain (.st 0 (.st 1 (.st 2 (.st 3 (.st 4 (.st 5 (.st 6 (.st 7 (.st 8 (.st 9 (.st 10 (.st 11 (.st 12 (.st 13 (.st 14 (.st 15 (.st 16 (.st 17 (.st 18 (.st 19 (.st 20 (.st 21 (.st 22 (.st 23 (.st 24 (.st 25 .nil)))))))))))))))))))))))))) rfl ?_
      refine GT_st rfl rfl rfl rfl (V_move rfl rfl) ?_
      first | refine GT_st rfl rfl rfl rfl (V_field rfl rfl fo_191_0) ?_ | refine GT_st rfl rfl rfl rfl (V_fieldA rfl rfl fo_191_0) ?_
      first | refine GT_st rfl rfl rfl rfl (V_field rfl rfl fo_85_0) ?_ | refine GT_st rfl rfl rfl rfl (V_fieldA rfl rfl fo_85_0) ?_
      refine GT_st rfl rfl rfl rfl (V_load rfl rfl ag_2 (CellAt.item rfl)) ?_
      refine GT_st rfl rfl rfl rfl (V_geq rfl rfl rfl) ?_
      refine GT_st rfl rfl rfl rfl (V_move rfl rfl) ?_
      first | refine GT_splitNot (d := 29) rfl (fun q2 => ?_) (fun q2 => ?_) | refine GT_split (d := 29) rfl (fun q2 => ?_) (fun q2 => ?_) | refine GT_splitNotB (d := 29) rfl (fun q2 => ?_) (fun q2 => ?_) | refine GT_splitB (d := 29) rfl (fun q2 => ?_) (fun q2 => ?_)
      · skip
        refine GT_st_g rfl rfl rfl rfl rfl rfl rfl (V_move rfl rfl) ?_
        first | refine GT_st_g rfl rfl rfl rfl rfl rfl rfl (V_field rfl rfl fo_191_0) ?_ | refine GT_st_g rfl rfl rfl rfl rfl rfl rfl (V_fieldA rfl rfl fo_191_0) ?_
        first | refine GT_st_g rfl rfl rfl rfl rfl rfl rfl (V_field rfl rfl fo_85_2) ?_ | refine GT_st_g rfl rfl rfl rfl rfl rfl rfl (V_fieldA rfl rfl fo_85_2) ?_
        refine GT_st_g rfl rfl rfl rfl rfl rfl rfl (V_load rfl rfl ag_2 (CellAt.item rfl)) ?_
        refine GT_st_g rfl rfl rfl rfl rfl rfl rfl (V_lss rfl rfl rfl) ?_
        refine GT_st rfl rfl rfl rfl (V_pick_t rfl rfl rfl) ?_
        refine GT_st rfl rfl rfl rfl (V_move rfl rfl) ?_
        first | refine GT_splitNot (d := 36) rfl (fun q3 => ?_) (fun q3 => ?_) | refine GT_split (d := 36) rfl (fun q3 => ?_) (fun q3 => ?_) | refine GT_splitNotB (d := 36) rfl (fun q3 => ?_) (fun q3 => ?_) | refine GT_splitB (d := 36) rfl (fun q3 => ?_) (fun q3 => ?_)
        · have q3 : ((folded l).getD k default).x0 ≤ x ∧ x < ((folded l).getD k default).x1 := ⟨q2, q3⟩
          refine GT_st_g rfl rfl rfl rfl rfl rfl rfl (V_move rfl rfl) ?_
          first | refine GT_st_g rfl rfl rfl rfl rfl rfl rfl (V_field rfl rfl fo_191_0) ?_ | refine GT_st_g rfl rfl rfl rfl rfl rfl rfl (V_fieldA rfl rfl fo_191_0) ?_
          first | refine GT_st_g rfl rfl rfl rfl rfl rfl rfl (V_field rfl rfl fo_85_1) ?_ | refine GT_st_g rfl rfl rfl rfl rfl rfl rfl (V_fieldA rfl rfl fo_85_1) ?_
          refine GT_st_g rfl rfl rfl rfl rfl rfl rfl (V_load rfl rfl ag_2 (CellAt.item rfl)) ?_
          refine GT_st_g rfl rfl rfl rfl rfl rfl rfl (V_geq rfl rfl rfl) ?_
          refine GT_st rfl rfl rfl rfl (V_pick_t rfl rfl rfl) ?_
          refine GT_st rfl rfl rfl rfl (V_move rfl rfl) ?_
          first | refine GT_splitNot (d := 43) rfl (fun q4 => ?_) (fun q4 => ?_) | refine GT_split (d := 43) rfl (fun q4 => ?_) (fun q4 => ?_) | refine GT_splitNotB (d := 43) rfl (fun q4 => ?_) (fun q4 => ?_) | refine GT_splitB (d := 43) rfl (fun q4 => ?_) (fun q4 => ?_)
          · skip
            refine GT_st_g rfl rfl rfl rfl rfl rfl rfl (V_move rfl rfl) ?_
            first | refine GT_st_g rfl rfl rfl rfl rfl rfl rfl (V_field rfl rfl fo_191_0) ?_ | refine GT_st_g rfl rfl rfl rfl rfl rfl rfl (V_fieldA rfl rfl fo_191_0) ?_
            first | refine GT_st_g rfl rfl rfl rfl rfl rfl rfl (V_field rfl rfl fo_85_3) ?_ | refine GT_st_g rfl rfl rfl rfl rfl rfl rfl (V_fieldA rfl rfl fo_85_3) ?_
            refine GT_st_g rfl rfl rfl rfl rfl rfl rfl (V_load rfl rfl ag_2 (CellAt.item rfl)) ?_
            refine GT_st_g rfl rfl rfl rfl rfl rfl rfl (V_lss rfl rfl rfl) ?_
            refine GT_st rfl rfl rfl rfl (V_pick_t rfl rfl rfl) ?_
            refine GT_nil ?_
            first | refine GE_condNot rfl (fun q5 => ?_) (fun q5 => ?_) | refine GE_cond rfl (fun q5 => ?_) (fun q5 => ?_) | refine GE_condNotB rfl (fun q5 => ?_) (fun q5 => ?_) | refine GE_condB rfl (fun q5 => ?_) (fun q5 => ?_)
            · have hly : lyq (folded l) x y (k + 1) = lyq (folded l) x y k + 1 := (by rw [lyq, if_pos ⟨⟨q3, q4⟩, q5⟩])
              refine GE_slots (L' := [(1, _), (2, _), (9, _), (10, _), (18, _), (19, _), (20, _), (30, _), (31, _), (32, _), (33, _), (34, _), (37, _), (38, _), (39, _), (40, _), (41, _), (44, _), (45, _), (46, _), (47, _), (48, _)]) ⟨rfl, rfl, rfl, rfl, rfl, rfl, rfl, rfl, rfl, rfl, rfl, rfl, rfl, rfl, rfl, rfl, rfl, rfl, rfl, rfl, rfl, rfl, trivial⟩ ?_
              refine GE_plain (.st 0 (.st 1 (.ld 2 [] .nil))) rfl ?_
              refine GT_st rfl rfl rfl rfl (V_move rfl rfl) ?_
              refine GT_st rfl rfl rfl rfl (V_add rfl rfl rfl (wrap_i64 (by omega))) ?_
              refine GT_ldv rfl rfl rfl rfl rfl (V_assign rfl rfl) (GR_nil) ?_
              refine GT_nil ?_
              refine GE_inBlock ?_
              refine GE_plain (.st 0 (.ld 1 [] .nil)) rfl ?_
              refine GT_st rfl rfl rfl rfl (V_add rfl rfl rfl (wrap_i64 (by omega))) ?_
              refine GT_ldv rfl rfl rfl rfl rfl (V_move rfl rfl) (GR_nil) ?_
              refine GT_nil ?_
              exact GE_to (ih (k + 1) (by omega) (by omega)) ⟨rfl, rfl, rfl, lookI rfl hly.symm, rfl, rfl, rfl, trivial⟩ HS.last
            · have hly : lyq (folded l) x y (k + 1) = lyq (folded l) x y k := (by rw [lyq, if_neg (fun q => q5 q.2), Int.add_zero])
              refine GE_skip ?_
              refine GE_inBlock ?_
              refine GE_slots (L' := [(1, _), (2, _), (9, _), (10, _), (18, _), (19, _), (20, _), (30, _), (31, _), (32, _), (33, _), (34, _), (37, _), (38, _), (39, _), (40, _), (41, _), (44, _), (45, _), (46, _), (47, _), (48, _)]) ⟨rfl, rfl, rfl, rfl, rfl, rfl, rfl, rfl, rfl, rfl, rfl, rfl, rfl, rfl, rfl, rfl, rfl, rfl, rfl, rfl, rfl, rfl, trivial⟩ ?_
              refine GE_plain (.st 0 (.ld 1 [] .nil)) rfl ?_
              refine GT_st rfl rfl rfl rfl (V_add rfl rfl rfl (wrap_i64 (by omega))) ?_
              refine GT_ldv rfl rfl rfl rfl rfl (V_move rfl rfl) (GR_nil) ?_
              refine GT_nil ?_
              exact GE_to (ih (k + 1) (by omega) (by omega)) ⟨rfl, rfl, rfl, lookI rfl hly.symm, rfl, rfl, rfl, trivial⟩ HS.last
          · have hly : lyq (folded l) x y (k + 1) = lyq (folded l) x y k := (by rw [lyq, if_neg (fun q => q4 q.1.2), Int.add_zero])
            refine GT_skip rfl rfl rfl rfl rfl (by decide) rfl rfl ?_
            refine GT_skip rfl rfl rfl rfl rfl (by decide) rfl rfl ?_
            refine GT_skip rfl rfl rfl rfl rfl (by decide) rfl rfl ?_
            refine GT_skip rfl rfl rfl rfl rfl (by decide) rfl rfl ?_
            refine GT_skip rfl rfl rfl rfl rfl (by decide) rfl rfl ?_
            refine GT_st rfl rfl rfl rfl (V_pick_f rfl rfl rfl) ?_
            refine GT_nil ?_
            refine GE_cond_f rfl ?_
            refine GE_skip ?_
            refine GE_inBlock ?_
            refine GE_slots (L' := [(1, _), (2, _), (9, _), (10, _), (18, _), (19, _), (20, _), (30, _), (31, _), (32, _), (33, _), (34, _), (37, _), (38, _), (39, _), (40, _), (41, _), (44, _), (45, _), (46, _), (47, _), (48, _)]) ⟨rfl, rfl, rfl, rfl, rfl, rfl, rfl, rfl, rfl, rfl, rfl, rfl, rfl, rfl, rfl, rfl, rfl, rfl, rfl, rfl, rfl, rfl, trivial⟩ ?_
            refine GE_plain (.st 0 (.ld 1 [] .nil)) rfl ?_
            refine GT_st rfl rfl rfl rfl (V_add rfl rfl rfl (wrap_i64 (by omega))) ?_
            refine GT_ldv rfl rfl rfl rfl rfl (V_move rfl rfl) (GR_nil) ?_
            refine GT_nil ?_
            exact GE_to (ih (k + 1) (by omega) (by omega)) ⟨rfl, rfl, rfl, lookI rfl hly.symm, rfl, rfl, rfl, trivial⟩ HS.last
        · have hly : lyq (folded l) x y (k + 1) = lyq (folded l) x y k := (by rw [lyq, if_neg (fun q => q3 q.1.1.2), Int.add_zero])
          refine GT_skip rfl rfl rfl rfl rfl (by decide) rfl rfl ?_
          refine GT_skip rfl rfl rfl rfl rfl (by decide) rfl rfl ?_
          refine GT_skip rfl rfl rfl rfl rfl (by decide) rfl rfl ?_
          refine GT_skip rfl rfl rfl rfl rfl (by decide) rfl rfl ?_
          refine GT_skip rfl rfl rfl rfl rfl (by decide) rfl rfl ?_
          refine GT_st rfl rfl rfl rfl (V_pick_f rfl rfl rfl) ?_
          refine GT_st rfl rfl rfl rfl (V_move rfl rfl) ?_
          refine GT_skip rfl rfl rfl rfl rfl (by decide) rfl rfl ?_
          refine GT_skip rfl rfl rfl rfl rfl (by decide) rfl rfl ?_
          refine GT_skip rfl rfl rfl rfl rfl (by decide) rfl rfl ?_
          refine GT_skip rfl rfl rfl rfl rfl (by decide) rfl rfl ?_
          refine GT_skip rfl rfl rfl rfl rfl (by decide) rfl rfl ?_
          refine GT_st rfl rfl rfl rfl (V_pick_f rfl rfl rfl) ?_
          refine GT_nil ?_
          refine GE_cond_f rfl ?_
          refine GE_skip ?_
          refine GE_inBlock ?_
          refine GE_slots (L' := [(1, _), (2, _), (9, _), (10, _), (18, _), (19, _), (20, _), (30, _), (31, _), (32, _), (33, _), (34, _), (37, _), (38, _), (39, _), (40, _), (41, _), (44, _), (45, _), (46, _), (47, _), (48, _)]) ⟨rfl, rfl, rfl, rfl, rfl, rfl, rfl, rfl, rfl, rfl, rfl, rfl, rfl, rfl, rfl, rfl, rfl, rfl, rfl, rfl, rfl, rfl, trivial⟩ ?_
          refine GE_plain (.st 0 (.ld 1 [] .nil)) rfl ?_
          refine GT_st rfl rfl rfl rfl (V_add rfl rfl rfl (wrap_i64 (by omega))) ?_
          refine GT_ldv rfl rfl rfl rfl rfl (V_move rfl rfl) (GR_nil) ?_
          refine GT_nil ?_
          exact GE_to (ih (k + 1) (by omega) (by omega)) ⟨rfl, rfl, rfl, lookI rfl hly.symm, rfl, rfl, rfl, trivial⟩ HS.last
      · have hly : lyq (folded l) x y (k + 1) = lyq (folded l) x y k := (by rw [lyq, if_neg (fun q => q2 q.1.1.1), Int.add_zero])
        refine GT_skip rfl rfl rfl rfl rfl (by decide) rfl rfl ?_
        refine GT_skip rfl rfl rfl rfl rfl (by decide) rfl rfl ?_
        refine GT_skip rfl rfl rfl rfl rfl (by decide) rfl rfl ?_
        refine GT_skip rfl rfl rfl rfl rfl (by decide) rfl rfl ?_
        refine GT_skip rfl rfl rfl rfl rfl (by decide) rfl rfl ?_
        refine GT_st rfl rfl rfl rfl (V_pick_f rfl rfl rfl) ?_
        refine GT_st rfl rfl rfl rfl (V_move rfl rfl) ?_
        refine GT_skip rfl rfl rfl rfl rfl (by decide) rfl rfl ?_
        refine GT_skip rfl rfl rfl rfl rfl (by decide) rfl rfl ?_
        refine GT_skip rfl rfl rfl rfl rfl (by decide) rfl rfl ?_
        refine GT_skip rfl rfl rfl rfl rfl (by decide) rfl rfl ?_
        refine GT_skip rfl rfl rfl rfl rfl (by decide) rfl rfl ?_
        refine GT_st rfl rfl rfl rfl (V_pick_f rfl rfl rfl) ?_
        refine GT_st rfl rfl rfl rfl (V_move rfl rfl) ?_
        refine GT_skip rfl rfl rfl rfl rfl (by decide) rfl rfl ?_
        refine GT_skip rfl rfl rfl rfl rfl (by decide) rfl rfl ?_
        refine GT_skip rfl rfl rfl rfl rfl (by decide) rfl rfl ?_
        refine GT_skip rfl rfl rfl rfl rfl (by decide) rfl rfl ?_
        refine GT_skip rfl rfl rfl rfl rfl (by decide) rfl rfl ?_
        refine GT_st rfl rfl rfl rfl (V_pick_f rfl rfl rfl) ?_
        refine GT_nil ?_
        refine GE_cond_f rfl ?_
        refine GE_skip ?_
        refine GE_inBlock ?_
        refine GE_slots (L' := [(1, _), (2, _), (9, _), (10, _), (18, _), (19, _), (20, _), (30, _), (31, _), (32, _), (33, _), (34, _), (37, _), (38, _), (39, _), (40, _), (41, _), (44, _), (45, _), (46, _), (47, _), (48, _)]) ⟨rfl, rfl, rfl, rfl, rfl, rfl, rfl, rfl, rfl, rfl, rfl, rfl, rfl, rfl, rfl, rfl, rfl, rfl, rfl, rfl, rfl, rfl, trivial⟩ ?_
        refine GE_plain (.st 0 (.ld 1 [] .nil)) rfl ?_
        refine GT_st rfl rfl rfl rfl (V_add rfl rfl rfl (wrap_i64 (by omega))) ?_
        refine GT_ldv rfl rfl rfl rfl rfl (V_move rfl rfl) (GR_nil) ?_
        refine GT_nil ?_
        exact GE_to (ih (k + 1) (by omega) (by omega)) ⟨rfl, rfl, rfl, lookI rfl hly.symm, rfl, rfl, rfl, trivial⟩ HS.last
    · obtain rfl : k = l.length := (by omega)
      refine GE_exit rfl ?_
      refine GE_seq ?_
      refine GE_slots (L' := [(9, _), (10, _)]) ⟨rfl, rfl, trivial⟩ ?_
      refine GE_plain (.st 0 (.st 1 (.st 2 (.st 3 .nil)))) rfl ?_
      refine GT_st rfl rfl rfl rfl (V_move rfl rfl) ?_
      refine GT_st rfl rfl rfl rfl (V_move rfl rfl) ?_
      refine GT_st rfl rfl rfl rfl (V_assign rfl rfl) ?_
      refine GT_st rfl rfl rfl rfl (V_assign rfl rfl) ?_
      refine GT_nil ?_
      refine GE_ret Tryz.func33 ⟨_, _, rfl, rfl, rfl⟩ (fun w hw => ⟨?_, hw.nil⟩)
      rfl
  · exact Nat.zero_le _
end
end Go.Proofs.YtpbflnfcgcldkaaGreatDoor.Net
/- The net of two square panels and a flap, in plain Lean. -/
namespace Go.Proofs.YtpbflnfcgcldkaaGreatDoor.Net
open Go.Sx
open Side (getD_memT)
def flapP (w d o : Int) : Pan := if o % 2 = 0 then ⟨1, o, 0, d, w⟩ else ⟨1, o, 0, w, d⟩
def net (w d e o : Int) : List Pan := [⟨-1, 0, 0, w, w⟩, ⟨0, e, 0, w, w⟩, flapP w d o]
def nb0 (w : Int) : Box := ⟨0, 0, w, w, false⟩
def nb1 (w e : Int) : Box := hangB (nb0 w) ⟨0, e, 0, w, w⟩
def nb2 (w d e o : Int) : Box := hangB (nb1 w e) (flapP w d o)
theorem net_flat (w d e o : Int) : flat (net w d e o) = [nb0 w, nb1 w e, nb2 w d e o] := by
  have h : (flapP w d o).on = 1 := by unfold flapP; split <;> rfl
  have h2 : (flapP w d o).on.toNat = 1 := by rw [h]; rfl
  show flq (net w d e o) 3 = _
  have e1 : flq (net w d e o) 2 = [nb0 w, nb1 w e] := rfl
  rw [flq, e1, if_neg (by decide)]
  show [nb0 w, nb1 w e] ++ [hangB ([nb0 w, nb1 w e].getD (flapP w d o).on.toNat default) (flapP w d o)] = _
  rw [h2]; rfl
def OutOk (e o : Int) : Prop := (0 ≤ e ∧ e ≤ 3) ∧ (o = (e + 3) % 4 ∨ o = e ∨ o = (e + 1) % 4)
theorem out_cases {e o : Int} (h : OutOk e o) : (e = 0 ∧ (o = 3 ∨ o = 0 ∨ o = 1)) ∨ (e = 1 ∧ (o = 0 ∨ o = 1 ∨ o = 2)) ∨ (e = 2 ∧ (o = 1 ∨ o = 2 ∨ o = 3)) ∨ (e = 3 ∧ (o = 2 ∨ o = 3 ∨ o = 0)) := by
  unfold OutOk at h; omega
theorem net_ok {w d e o : Int} (hw : 1 ≤ w ∧ w ≤ 65536) (hd : 1 ≤ d ∧ d ≤ w) (h : OutOk e o) : NetOk (net w d e o) := by
  have hf := net_flat w d e o
  refine ⟨⟨by show 1 ≤ 3; decide, by show 3 ≤ 12; decide⟩, ?_, ⟨rfl, rfl, rfl⟩, ?_, ?_, ?_⟩
  · intro p hp
    simp only [net, List.mem_cons, List.not_mem_nil, or_false] at hp
    rcases hp with rfl | rfl | rfl
    · exact ⟨hw, hw⟩
    · exact ⟨hw, hw⟩
    · unfold flapP; split <;> (dsimp only; omega)
  · intro k h0 hk
    rcases (show k = 1 ∨ k = 2 by have : k < 3 := hk; omega) with rfl | rfl
    · show (0 ≤ (0 : Int) ∧ (0 : Int) < ((1 : Nat) : Int)) ∧ (0 ≤ e ∧ e ≤ 3) ∧ -65536 ≤ (0 : Int) ∧ (0 : Int) ≤ 65536
      exact ⟨by decide, h.1, by decide⟩
    · have ho : 0 ≤ o ∧ o ≤ 3 := by rcases out_cases h with ⟨_, q⟩ | ⟨_, q⟩ | ⟨_, q⟩ | ⟨_, q⟩ <;> omega
      show (0 ≤ (flapP w d o).on ∧ (flapP w d o).on < ((2 : Nat) : Int)) ∧ (0 ≤ (flapP w d o).edge ∧ (flapP w d o).edge ≤ 3) ∧ -65536 ≤ (flapP w d o).off ∧ (flapP w d o).off ≤ 65536
      unfold flapP; split <;> (dsimp only; omega)
  · intro k h0 hk
    rw [hf]
    rcases (show k = 1 ∨ k = 2 by have : k < 3 := hk; omega) with rfl | rfl
    · show 0 < comW (nb1 w e) (nb0 w) ∨ 0 < comH (nb1 w e) (nb0 w)
      rcases out_cases h with ⟨rfl, _⟩ | ⟨rfl, _⟩ | ⟨rfl, _⟩ | ⟨rfl, _⟩ <;> simp [comW, comH, nb1, nb0, hangB, hgX, hgY] <;> omega
    · have h2 : (flapP w d o).on.toNat = 1 := by unfold flapP; split <;> rfl
      show 0 < comW (nb2 w d e o) ([nb0 w, nb1 w e, nb2 w d e o].getD (flapP w d o).on.toNat default) ∨ 0 < comH (nb2 w d e o) ([nb0 w, nb1 w e, nb2 w d e o].getD (flapP w d o).on.toNat default)
      rw [h2]
      show 0 < comW (nb2 w d e o) (nb1 w e) ∨ 0 < comH (nb2 w d e o) (nb1 w e)
      rcases out_cases h with ⟨rfl, rfl | rfl | rfl⟩ | ⟨rfl, rfl | rfl | rfl⟩ | ⟨rfl, rfl | rfl | rfl⟩ | ⟨rfl, rfl | rfl | rfl⟩ <;> simp [comW, comH, nb2, nb1, nb0, hangB, hgX, hgY, flapP] <;> omega
  · intro i hi j hj
    rw [hf]
    have hi3 : i < 3 := hi
    rcases (show (i = 1 ∧ j = 0) ∨ (i = 2 ∧ j = 0) ∨ (i = 2 ∧ j = 1) by omega) with ⟨rfl, rfl⟩ | ⟨rfl, rfl⟩ | ⟨rfl, rfl⟩
    · show comW (nb1 w e) (nb0 w) ≤ 0 ∨ comH (nb1 w e) (nb0 w) ≤ 0
      rcases out_cases h with ⟨rfl, _⟩ | ⟨rfl, _⟩ | ⟨rfl, _⟩ | ⟨rfl, _⟩ <;> simp [comW, comH, nb1, nb0, hangB, hgX, hgY] <;> omega
    · show comW (nb2 w d e o) (nb0 w) ≤ 0 ∨ comH (nb2 w d e o) (nb0 w) ≤ 0
      rcases out_cases h with ⟨rfl, rfl | rfl | rfl⟩ | ⟨rfl, rfl | rfl | rfl⟩ | ⟨rfl, rfl | rfl | rfl⟩ | ⟨rfl, rfl | rfl | rfl⟩ <;> simp [comW, comH, nb2, nb1, nb0, hangB, hgX, hgY, flapP] <;> omega
    · show comW (nb2 w d e o) (nb1 w e) ≤ 0 ∨ comH (nb2 w d e o) (nb1 w e) ≤ 0
      rcases out_cases h with ⟨rfl, rfl | rfl | rfl⟩ | ⟨rfl, rfl | rfl | rfl⟩ | ⟨rfl, rfl | rfl | rfl⟩ | ⟨rfl, rfl | rfl | rfl⟩ <;> simp [comW, comH, nb2, nb1, nb0, hangB, hgX, hgY, flapP] <;> omega
theorem net_fld0 (w d e o : Int) : fld (net w d e o) 0 = nb0 w := by unfold fld; rw [net_flat]; rfl
theorem net_fld1 (w d e o : Int) : fld (net w d e o) 1 = overB (nb1 w e) (nb0 w) e := by unfold fld; rw [net_flat]; rfl
theorem net_fld2 (w d e o : Int) : fld (net w d e o) 2 = overB (overB (nb2 w d e o) (nb1 w e) (flapP w d o).edge) (nb0 w) e := by
  have h2 : (flapP w d o).on.toNat = 1 := by unfold flapP; split <;> rfl
  unfold fld; rw [net_flat]
  show fldq (net w d e o) [nb0 w, nb1 w e, nb2 w d e o] 2 2 (nb2 w d e o) = _
  rw [fldq, if_neg (by decide)]
  show fldq (net w d e o) [nb0 w, nb1 w e, nb2 w d e o] 1 (flapP w d o).on.toNat (overB (nb2 w d e o) ([nb0 w, nb1 w e, nb2 w d e o].getD (flapP w d o).on.toNat default) (flapP w d o).edge) = _
  rw [h2]; rfl
theorem fld1_is {w d e o : Int} (h : OutOk e o) : fld (net w d e o) 1 = ⟨0, 0, w, w, true⟩ := by
  rw [net_fld1]
  rcases out_cases h with ⟨rfl, _⟩ | ⟨rfl, _⟩ | ⟨rfl, _⟩ | ⟨rfl, _⟩ <;> simp [overB, mirB, flipX, flipY, nb1, nb0, hangB, hgX, hgY] <;> omega
structure FlapIs (w d : Int) (q : Box) : Prop where
  down : q.down = false
  x : 0 ≤ q.x0 ∧ q.x0 < q.x1 ∧ q.x1 ≤ w
  y : 0 ≤ q.y0 ∧ q.y0 < q.y1 ∧ q.y1 ≤ w
  area : (q.x1 - q.x0 = d ∧ q.y1 - q.y0 = w) ∨ (q.x1 - q.x0 = w ∧ q.y1 - q.y0 = d)
theorem fld2_is {w d e o : Int} (hd : 1 ≤ d ∧ d ≤ w) (h : OutOk e o) : FlapIs w d (fld (net w d e o) 2) := by
  rw [net_fld2]
  rcases out_cases h with ⟨rfl, rfl | rfl | rfl⟩ | ⟨rfl, rfl | rfl | rfl⟩ | ⟨rfl, rfl | rfl | rfl⟩ | ⟨rfl, rfl | rfl | rfl⟩ <;> constructor <;> simp [overB, mirB, flipX, flipY, nb2, nb1, nb0, hangB, hgX, hgY, flapP] <;> omega
theorem net_layers {w d e o x y : Int} (h : OutOk e o) (hx : 0 ≤ x ∧ x < w) (hy : 0 ≤ y ∧ y < w) : lyq (folded (net w d e o)) x y 3 = 2 + (if inB (fld (net w d e o) 2) x y then 1 else 0) := by
  have g : ∀ i, i < 3 → (folded (net w d e o)).getD i default = fld (net w d e o) i := fun i hi => folded_get (by show i < 3; exact hi)
  rw [lyq, lyq, lyq, lyq, g 0 (by decide), g 1 (by decide), g 2 (by decide), net_fld0, fld1_is h, if_pos (show inB (nb0 w) x y from ⟨⟨hx, hy.1⟩, hy.2⟩), if_pos (show inB ⟨0, 0, w, w, true⟩ x y from ⟨⟨hx, hy.1⟩, hy.2⟩)]
  omega
theorem net_pocket {w d e o : Int} (h : OutOk e o) (hw : 1 ≤ w) : (0 < comW (fld (net w d e o) 0) (fld (net w d e o) 1) ∧ 0 < comH (fld (net w d e o) 0) (fld (net w d e o) 1)) ∧ pkX (net w d e o) = 0 ∧ pkY (net w d e o) = 0 ∧ comW (fld (net w d e o) 0) (fld (net w d e o) 1) = w ∧ comH (fld (net w d e o) 0) (fld (net w d e o) 1) = w := by
  unfold pkX pkY
  rw [net_fld0, fld1_is h]
  unfold comW comH nb0
  dsimp only
  omega
end Go.Proofs.YtpbflnfcgcldkaaGreatDoor.Net
/- Formats that are valid, by the document's answer, walked. -/
namespace Go.Proofs.YtpbflnfcgcldkaaGreatDoor.Side
open Go.Sx Go.Proofs Go.RowKit
def alB (b : Int) : Prop := (97 ≤ b ∧ b ≤ 122) ∨ (48 ≤ b ∧ b ≤ 57)
def NmOk (s : ByteArray) : Prop := (1 ≤ s.size ∧ s.size ≤ 20) ∧ ∀ i, i < s.size → alB ((byz s).getD i default).toNat
structure Fmt.Ref (f : Fmt) : Prop where
  nm : NmOk f.nm
  outer : 1 ≤ f.outer ∧ f.outer ≤ 4194304
  inner : 0 ≤ f.inner ∧ f.inner ≤ f.outer - 1
  per : 1 ≤ f.per ∧ f.per ≤ 65536
  lead : 0 ≤ f.lead ∧ f.lead ≤ 4194304
  gap : 0 ≤ f.gap ∧ f.gap ≤ 4194304
  tail : 0 ≤ f.tail ∧ f.tail ≤ 4194304
  cost : 0 ≤ f.cost ∧ f.cost ≤ 1048576
section
variable {w : World}
theorem C_within4 {n lo hi : Int} : Con0 Tryz.prog 78 [I n, I lo, I hi] w (.bool (decide (lo ≤ n ∧ n ≤ hi))) := by
  refine Ret_of (vs := [_, _, _]) hm none' Tryz.func78 rfl Tryz.ntmps78 rfl ?_
  dsimp only [slotsOf]
  refine GE_seq ?_
  refine GE_plain (.st 0 .nil) rfl ?_
  refine GT_st rfl rfl rfl rfl (V_assign rfl rfl) ?_
  refine GT_nil ?_
  refine GE_seq ?_
  refine GE_plain (.st 0 (.st 1 (.st 2 (.st 3 (.st 4 (.st 5 (.st 6 (.st 7 (.st 8 .nil))))))))) rfl ?_
  refine GT_st rfl rfl rfl rfl (V_move rfl rfl) ?_
  refine GT_st rfl rfl rfl rfl (V_move rfl rfl) ?_
  refine GT_st rfl rfl rfl rfl (V_geq rfl rfl rfl) ?_
  refine GT_st rfl rfl rfl rfl (V_move rfl rfl) ?_
  first | refine GT_splitNot (d := 10) rfl (fun h1 => ?_) (fun h1 => ?_) | refine GT_split (d := 10) rfl (fun h1 => ?_) (fun h1 => ?_) | refine GT_splitNotB (d := 10) rfl (fun h1 => ?_) (fun h1 => ?_) | refine GT_splitB (d := 10) rfl (fun h1 => ?_) (fun h1 => ?_)
  · skip
    refine GT_st_g rfl rfl rfl rfl rfl rfl rfl (V_move rfl rfl) ?_
    refine GT_st_g rfl rfl rfl rfl rfl rfl rfl (V_move rfl rfl) ?_
    refine GT_st_g rfl rfl rfl rfl rfl rfl rfl (V_leq rfl rfl rfl) ?_
    refine GT_st rfl rfl rfl rfl (V_pick_t rfl rfl rfl) ?_
    refine GT_st rfl rfl rfl rfl (V_assign rfl rfl) ?_
    refine GT_nil ?_
    refine GE_ret Tryz.func78 rfl (fun w hw => ⟨?_, hw.nil⟩)
    refine congrArg Value.bool ?_; simp; try omega
  · skip
    refine GT_skip rfl rfl rfl rfl rfl (by decide) rfl rfl ?_
    refine GT_skip rfl rfl rfl rfl rfl (by decide) rfl rfl ?_
    refine GT_skip rfl rfl rfl rfl rfl (by decide) rfl rfl ?_
    refine GT_st rfl rfl rfl rfl (V_pick_f rfl rfl rfl) ?_
    refine GT_st rfl rfl rfl rfl (V_assign rfl rfl) ?_
    refine GT_nil ?_
    refine GE_ret Tryz.func78 rfl (fun w hw => ⟨?_, hw.nil⟩)
    refine congrArg Value.bool ?_; simp; try omega
theorem C_refName {s : ByteArray} : Con Tryz.prog 77 [.string s] w (fun b : Bool => b = true → NmOk s) (fun b => .bool b) (fun _ => []) := by
  have hl := byz_len s
  refine Ret_of (vs := [_]) hm none' Tryz.func77 rfl Tryz.ntmps77 rfl ?_
  dsimp only [slotsOf]
  refine GE_seq ?_
  refine GE_plain (.st 0 .nil) rfl ?_
  refine GT_st rfl rfl rfl rfl (V_assign rfl rfl) ?_
  refine GT_nil ?_
  refine GE_seq ?_
  refine GE_seq ?_
  refine GE_plain (.st 0 (.st 1 (.st 2 (.st 3 (.st 4 (.st 5 (.st 6 (.st 7 .nil)))))))) rfl ?_
  refine GT_st rfl rfl rfl rfl (V_move rfl rfl) ?_
  refine GT_st rfl rfl rfl rfl (V_len_str rfl Tryz.underlying9 rfl) ?_
  refine GT_st rfl rfl rfl rfl (V_lss rfl rfl rfl) ?_
  refine GT_st rfl rfl rfl rfl (V_move rfl rfl) ?_
  first | refine GT_splitNot (d := 7) rfl (fun q1 => ?_) (fun q1 => ?_) | refine GT_split (d := 7) rfl (fun q1 => ?_) (fun q1 => ?_) | refine GT_splitNotB (d := 7) rfl (fun q1 => ?_) (fun q1 => ?_) | refine GT_splitB (d := 7) rfl (fun q1 => ?_) (fun q1 => ?_)
  · skip
    refine GT_skip rfl rfl rfl rfl rfl (by decide) rfl rfl ?_
    refine GT_skip rfl rfl rfl rfl rfl (by decide) rfl rfl ?_
    refine GT_skip rfl rfl rfl rfl rfl (by decide) rfl rfl ?_
    refine GT_st rfl rfl rfl rfl (V_pick_t rfl rfl rfl) ?_
    refine GT_nil ?_
    refine GE_cond_t rfl ?_
    refine GE_seq ?_
    refine GE_slots (L' := []) trivial ?_
    refine GE_plain (.st 0 .nil) rfl ?_
    refine GT_st rfl rfl rfl rfl (V_assign rfl rfl) ?_
    refine GT_nil ?_
    refine GE_ret Tryz.func77 rfl (fun w hw => ?_)
    exact ⟨false, fun q => (by cases q), rfl, hw.nil⟩
  · skip
    refine GT_st_g rfl rfl rfl rfl rfl rfl rfl (V_move rfl rfl) ?_
    refine GT_st_g rfl rfl rfl rfl rfl rfl rfl (V_len_str rfl Tryz.underlying9 rfl) ?_
    refine GT_st_g rfl rfl rfl rfl rfl rfl rfl (V_gtr rfl rfl rfl) ?_
    refine GT_st rfl rfl rfl rfl (V_pick_f rfl rfl rfl) ?_
    refine GT_nil ?_
    first | refine GE_condNot rfl (fun q2 => ?_) (fun q2 => ?_) | refine GE_cond rfl (fun q2 => ?_) (fun q2 => ?_) | refine GE_condNotB rfl (fun q2 => ?_) (fun q2 => ?_) | refine GE_condB rfl (fun q2 => ?_) (fun q2 => ?_)
    · skip
      refine GE_seq ?_
      refine GE_slots (L' := []) trivial ?_
      refine GE_plain (.st 0 .nil) rfl ?_
      refine GT_st rfl rfl rfl rfl (V_assign rfl rfl) ?_
      refine GT_nil ?_
      refine GE_ret Tryz.func77 rfl (fun w hw => ?_)
      exact ⟨false, fun q => (by cases q), rfl, hw.nil⟩
    · have hs : 1 ≤ s.size ∧ s.size ≤ 20 := (by omega)
      refine GE_skip ?_
      refine GE_seq ?_
      refine GE_seq ?_
      refine GE_slots (L' := [(0, _)]) ⟨rfl, trivial⟩ ?_
      refine GE_plain (.st 0 .nil) rfl ?_
      refine GT_st rfl rfl rfl rfl (V_assign rfl rfl) ?_
      refine GT_nil ?_
      refine GE_block ?_
      refine GE_to (GE_loop (ι := Nat) (fun k => s.size - k) (fun k => [(0, .string s), (3, I k)]) (fun k => []) (fun k => k ≤ s.size ∧ ∀ i, i < k → alB ((byz s).getD i default).toNat) ?_ 0 ?_) ⟨rfl, rfl, trivial⟩ HS.nil
      · rintro k ⟨hk, hall⟩ ih
        refine GE_seq ?_
        refine GE_seq ?_
        refine GE_plain (.st 0 (.st 1 (.st 2 (.st 3 .nil)))) rfl ?_
        refine GT_st rfl rfl rfl rfl (V_move rfl rfl) ?_
        refine GT_st rfl rfl rfl rfl (V_move rfl rfl) ?_
        refine GT_st rfl rfl rfl rfl (V_len_str rfl Tryz.underlying9 rfl) ?_
        refine GT_st rfl rfl rfl rfl (V_lss rfl rfl rfl) ?_
        refine GT_nil ?_
        first | refine GE_condNot rfl (fun q3 => ?_) (fun q3 => ?_) | refine GE_cond rfl (fun q3 => ?_) (fun q3 => ?_) | refine GE_condNotB rfl (fun q3 => ?_) (fun q3 => ?_) | refine GE_condB rfl (fun q3 => ?_) (fun q3 => ?_)
        · have hkl : k < s.size := (by omega)
          refine GE_skip ?_
          refine GE_seq ?_
          refine GE_block ?_
          refine GE_seq ?_
          refine GE_slots (L' := [(0, _), (3, _)]) ⟨rfl, rfl, trivial⟩ ?_
          refine GE_plain (.st 0 (.st 1 (.st 2 (.st 3 (.st 4 (.st 5 (.st 6 (.st 7 (.st 8 (.st 9 (.st 10 (.st 11 (.st 12 (.st 13 (.st 14 (.st 15 (.st 16 (.st 17 (.st 18 (.st 19 (.st 20 (.st 21 (.st 22 (.st 23 .nil)))))))))))))))))))))))) rfl ?_
          refine GT_st rfl rfl rfl rfl (V_move rfl rfl) ?_
          refine GT_st rfl rfl rfl rfl (V_move rfl rfl) ?_
          refine GT_st rfl rfl rfl rfl (V_indexStr rfl rfl rfl Tryz.underlying9 (k := k) rfl hkl) ?_
          refine GT_st rfl rfl rfl rfl (V_geq rfl rfl rfl) ?_
          refine GT_st rfl rfl rfl rfl (V_move rfl rfl) ?_
          first | refine GT_splitNot (d := 22) rfl (fun r1 => ?_) (fun r1 => ?_) | refine GT_split (d := 22) rfl (fun r1 => ?_) (fun r1 => ?_) | refine GT_splitNotB (d := 22) rfl (fun r1 => ?_) (fun r1 => ?_) | refine GT_splitB (d := 22) rfl (fun r1 => ?_) (fun r1 => ?_)
          · skip
            refine GT_st_g rfl rfl rfl rfl rfl rfl rfl (V_move rfl rfl) ?_
            refine GT_st_g rfl rfl rfl rfl rfl rfl rfl (V_move rfl rfl) ?_
            refine GT_st_g rfl rfl rfl rfl rfl rfl rfl (V_indexStr rfl rfl rfl Tryz.underlying9 (k := k) rfl hkl) ?_
            refine GT_st_g rfl rfl rfl rfl rfl rfl rfl (V_leq rfl rfl rfl) ?_
            refine GT_st rfl rfl rfl rfl (V_pick_t rfl rfl rfl) ?_
            first | refine GT_st rfl rfl rfl rfl (V_not rfl rfl) ?_ | refine GT_st rfl rfl rfl rfl (V_notB rfl rfl) ?_
            refine GT_st rfl rfl rfl rfl (V_move rfl rfl) ?_
            first | refine GT_splitNot (d := 29) rfl (fun r2 => ?_) (fun r2 => ?_) | refine GT_split (d := 29) rfl (fun r2 => ?_) (fun r2 => ?_) | refine GT_splitNotB (d := 29) rfl (fun r2 => ?_) (fun r2 => ?_) | refine GT_splitB (d := 29) rfl (fun r2 => ?_) (fun r2 => ?_)
            · skip
              refine GT_st_g rfl rfl rfl rfl rfl rfl rfl (V_move rfl rfl) ?_
              refine GT_st_g rfl rfl rfl rfl rfl rfl rfl (V_move rfl rfl) ?_
              refine GT_st_g rfl rfl rfl rfl rfl rfl rfl (V_indexStr rfl rfl rfl Tryz.underlying9 (k := k) rfl hkl) ?_
              refine GT_st_g rfl rfl rfl rfl rfl rfl rfl (V_geq rfl rfl rfl) ?_
              refine GT_st_g rfl rfl rfl rfl rfl rfl rfl (V_move rfl rfl) ?_
              first | refine GT_splitNot (d := 34) rfl (fun r3 => ?_) (fun r3 => ?_) | refine GT_split (d := 34) rfl (fun r3 => ?_) (fun r3 => ?_) | refine GT_splitNotB (d := 34) rfl (fun r3 => ?_) (fun r3 => ?_) | refine GT_splitB (d := 34) rfl (fun r3 => ?_) (fun r3 => ?_)
              · skip
                refine GT_st_g rfl rfl rfl rfl rfl rfl rfl (V_move rfl rfl) ?_
                refine GT_st_g rfl rfl rfl rfl rfl rfl rfl (V_move rfl rfl) ?_
                refine GT_st_g rfl rfl rfl rfl rfl rfl rfl (V_indexStr rfl rfl rfl Tryz.underlying9 (k := k) rfl hkl) ?_
                refine GT_st_g rfl rfl rfl rfl rfl rfl rfl (V_leq rfl rfl rfl) ?_
                refine GT_st_g rfl rfl rfl rfl rfl rfl rfl (V_pick_t rfl rfl rfl) ?_
                first | refine GT_st_g rfl rfl rfl rfl rfl rfl rfl (V_not rfl rfl) ?_ | refine GT_st_g rfl rfl rfl rfl rfl rfl rfl (V_notB rfl rfl) ?_
                refine GT_st rfl rfl rfl rfl (V_pick_t rfl rfl rfl) ?_
                refine GT_nil ?_
                first | refine GE_condNot rfl (fun r4 => ?_) (fun r4 => ?_) | refine GE_cond rfl (fun r4 => ?_) (fun r4 => ?_) | refine GE_condNotB rfl (fun r4 => ?_) (fun r4 => ?_) | refine GE_condB rfl (fun r4 => ?_) (fun r4 => ?_)
                · skip
                  refine GE_seq ?_
                  refine GE_slots (L' := []) trivial ?_
                  refine GE_plain (.st 0 .nil) rfl ?_
                  refine GT_st rfl rfl rfl rfl (V_assign rfl rfl) ?_
                  refine GT_nil ?_
                  refine GE_ret Tryz.func77 rfl (fun w hw => ?_)
                  exact ⟨false, fun q => (by cases q), rfl, hw.nil⟩
                · have hal : alB ((byz s).getD k default).toNat := .inr ⟨r3, r4⟩
                  refine GE_skip ?_
                  refine GE_inBlock ?_
                  refine GE_slots (L' := [(0, _), (3, _), (23, _), (24, _), (25, _), (26, _), (30, _), (31, _), (32, _), (33, _), (34, _), (35, _), (36, _), (37, _), (38, _), (39, _), (40, _)]) ⟨rfl, rfl, rfl, rfl, rfl, rfl, rfl, rfl, rfl, rfl, rfl, rfl, rfl, rfl, rfl, rfl, rfl, trivial⟩ ?_
                  refine GE_plain (.st 0 (.st 1 (.ld 2 [] .nil))) rfl ?_
                  refine GT_st rfl rfl rfl rfl (V_move rfl rfl) ?_
                  refine GT_st rfl rfl rfl rfl (V_add rfl rfl rfl (wrap_i64 (by omega))) ?_
                  refine GT_ldv rfl rfl rfl rfl rfl (V_assign rfl rfl) (GR_nil) ?_
                  refine GT_nil ?_
                  exact GE_to (ih (k + 1) ⟨by omega, fun i hi => by by_cases e : i = k; (subst e; exact hal); exact hall i (by omega)⟩ (by omega)) ⟨rfl, rfl, trivial⟩ HS.nil
              · skip
                refine GT_skip rfl rfl rfl rfl rfl (by decide) rfl rfl ?_
                refine GT_skip rfl rfl rfl rfl rfl (by decide) rfl rfl ?_
                refine GT_skip rfl rfl rfl rfl rfl (by decide) rfl rfl ?_
                refine GT_skip rfl rfl rfl rfl rfl (by decide) rfl rfl ?_
                refine GT_st_g rfl rfl rfl rfl rfl rfl rfl (V_pick_f rfl rfl rfl) ?_
                first | refine GT_st_g rfl rfl rfl rfl rfl rfl rfl (V_not rfl rfl) ?_ | refine GT_st_g rfl rfl rfl rfl rfl rfl rfl (V_notB rfl rfl) ?_
                refine GT_st rfl rfl rfl rfl (V_pick_t rfl rfl rfl) ?_
                refine GT_nil ?_
                refine GE_cond_t rfl ?_
                refine GE_seq ?_
                refine GE_slots (L' := []) trivial ?_
                refine GE_plain (.st 0 .nil) rfl ?_
                refine GT_st rfl rfl rfl rfl (V_assign rfl rfl) ?_
                refine GT_nil ?_
                refine GE_ret Tryz.func77 rfl (fun w hw => ?_)
                exact ⟨false, fun q => (by cases q), rfl, hw.nil⟩
            · have hal : alB ((byz s).getD k default).toNat := .inl ⟨r1, r2⟩
              refine GT_skip rfl rfl rfl rfl rfl (by decide) rfl rfl ?_
              refine GT_skip rfl rfl rfl rfl rfl (by decide) rfl rfl ?_
              refine GT_skip rfl rfl rfl rfl rfl (by decide) rfl rfl ?_
              refine GT_skip rfl rfl rfl rfl rfl (by decide) rfl rfl ?_
              refine GT_skip rfl rfl rfl rfl rfl (by decide) rfl rfl ?_
              refine GT_skip rfl rfl rfl rfl rfl (by decide) rfl rfl ?_
              refine GT_skip rfl rfl rfl rfl rfl (by decide) rfl rfl ?_
              refine GT_skip rfl rfl rfl rfl rfl (by decide) rfl rfl ?_
              refine GT_skip rfl rfl rfl rfl rfl (by decide) rfl rfl ?_
              refine GT_skip rfl rfl rfl rfl rfl (by decide) rfl rfl ?_
              refine GT_skip rfl rfl rfl rfl rfl (by decide) rfl rfl ?_
              refine GT_st rfl rfl rfl rfl (V_pick_f rfl rfl rfl) ?_
              refine GT_nil ?_
              refine GE_cond_f rfl ?_
              refine GE_skip ?_
              refine GE_inBlock ?_
              refine GE_slots (L' := [(0, _), (3, _), (23, _), (24, _), (25, _), (26, _), (30, _), (31, _), (32, _), (33, _), (34, _), (35, _), (36, _), (37, _), (38, _), (39, _), (40, _)]) ⟨rfl, rfl, rfl, rfl, rfl, rfl, rfl, rfl, rfl, rfl, rfl, rfl, rfl, rfl, rfl, rfl, rfl, trivial⟩ ?_
              refine GE_plain (.st 0 (.st 1 (.ld 2 [] .nil))) rfl ?_
              refine GT_st rfl rfl rfl rfl (V_move rfl rfl) ?_
              refine GT_st rfl rfl rfl rfl (V_add rfl rfl rfl (wrap_i64 (by omega))) ?_
              refine GT_ldv rfl rfl rfl rfl rfl (V_assign rfl rfl) (GR_nil) ?_
              refine GT_nil ?_
              exact GE_to (ih (k + 1) ⟨by omega, fun i hi => by by_cases e : i = k; (subst e; exact hal); exact hall i (by omega)⟩ (by omega)) ⟨rfl, rfl, trivial⟩ HS.nil
          · skip
            refine GT_skip rfl rfl rfl rfl rfl (by decide) rfl rfl ?_
            refine GT_skip rfl rfl rfl rfl rfl (by decide) rfl rfl ?_
            refine GT_skip rfl rfl rfl rfl rfl (by decide) rfl rfl ?_
            refine GT_skip rfl rfl rfl rfl rfl (by decide) rfl rfl ?_
            refine GT_st rfl rfl rfl rfl (V_pick_f rfl rfl rfl) ?_
            first | refine GT_st rfl rfl rfl rfl (V_not rfl rfl) ?_ | refine GT_st rfl rfl rfl rfl (V_notB rfl rfl) ?_
            refine GT_st rfl rfl rfl rfl (V_move rfl rfl) ?_
            refine GT_st_g rfl rfl rfl rfl rfl rfl rfl (V_move rfl rfl) ?_
            refine GT_st_g rfl rfl rfl rfl rfl rfl rfl (V_move rfl rfl) ?_
            refine GT_st_g rfl rfl rfl rfl rfl rfl rfl (V_indexStr rfl rfl rfl Tryz.underlying9 (k := k) rfl hkl) ?_
            refine GT_st_g rfl rfl rfl rfl rfl rfl rfl (V_geq rfl rfl rfl) ?_
            refine GT_st_g rfl rfl rfl rfl rfl rfl rfl (V_move rfl rfl) ?_
            first | refine GT_splitNot (d := 34) rfl (fun r3 => ?_) (fun r3 => ?_) | refine GT_split (d := 34) rfl (fun r3 => ?_) (fun r3 => ?_) | refine GT_splitNotB (d := 34) rfl (fun r3 => ?_) (fun r3 => ?_) | refine GT_splitB (d := 34) rfl (fun r3 => ?_) (fun r3 => ?_)
            · skip
              refine GT_st_g rfl rfl rfl rfl rfl rfl rfl (V_move rfl rfl) ?_
              refine GT_st_g rfl rfl rfl rfl rfl rfl rfl (V_move rfl rfl) ?_
              refine GT_st_g rfl rfl rfl rfl rfl rfl rfl (V_indexStr rfl rfl rfl Tryz.underlying9 (k := k) rfl hkl) ?_
              refine GT_st_g rfl rfl rfl rfl rfl rfl rfl (V_leq rfl rfl rfl) ?_
              refine GT_st_g rfl rfl rfl rfl rfl rfl rfl (V_pick_t rfl rfl rfl) ?_
              first | refine GT_st_g rfl rfl rfl rfl rfl rfl rfl (V_not rfl rfl) ?_ | refine GT_st_g rfl rfl rfl rfl rfl rfl rfl (V_notB rfl rfl) ?_
              refine GT_st rfl rfl rfl rfl (V_pick_t rfl rfl rfl) ?_
              refine GT_nil ?_
              first | refine GE_condNot rfl (fun r4 => ?_) (fun r4 => ?_) | refine GE_cond rfl (fun r4 => ?_) (fun r4 => ?_) | refine GE_condNotB rfl (fun r4 => ?_) (fun r4 => ?_) | refine GE_condB rfl (fun r4 => ?_) (fun r4 => ?_)
              · skip
                refine GE_seq ?_
                refine GE_slots (L' := []) trivial ?_
                refine GE_plain (.st 0 .nil) rfl ?_
                refine GT_st rfl rfl rfl rfl (V_assign rfl rfl) ?_
                refine GT_nil ?_
                refine GE_ret Tryz.func77 rfl (fun w hw => ?_)
                exact ⟨false, fun q => (by cases q), rfl, hw.nil⟩
              · have hal : alB ((byz s).getD k default).toNat := .inr ⟨r3, r4⟩
                refine GE_skip ?_
                refine GE_inBlock ?_
                refine GE_slots (L' := [(0, _), (3, _), (23, _), (24, _), (25, _), (26, _), (30, _), (31, _), (32, _), (33, _), (34, _), (35, _), (36, _), (37, _), (38, _), (39, _), (40, _)]) ⟨rfl, rfl, rfl, rfl, rfl, rfl, rfl, rfl, rfl, rfl, rfl, rfl, rfl, rfl, rfl, rfl, rfl, trivial⟩ ?_
                refine GE_plain (.st 0 (.st 1 (.ld 2 [] .nil))) rfl ?_
                refine GT_st rfl rfl rfl rfl (V_move rfl rfl) ?_
                refine GT_st rfl rfl rfl rfl (V_add rfl rfl rfl (wrap_i64 (by omega))) ?_
                refine GT_ldv rfl rfl rfl rfl rfl (V_assign rfl rfl) (GR_nil) ?_
                refine GT_nil ?_
                exact GE_to (ih (k + 1) ⟨by omega, fun i hi => by by_cases e : i = k; (subst e; exact hal); exact hall i (by omega)⟩ (by omega)) ⟨rfl, rfl, trivial⟩ HS.nil
            · skip
              refine GT_skip rfl rfl rfl rfl rfl (by decide) rfl rfl ?_
              refine GT_skip rfl rfl rfl rfl rfl (by decide) rfl rfl ?_
              refine GT_skip rfl rfl rfl rfl rfl (by decide) rfl rfl ?_
              refine GT_skip rfl rfl rfl rfl rfl (by decide) rfl rfl ?_
              refine GT_st_g rfl rfl rfl rfl rfl rfl rfl (V_pick_f rfl rfl rfl) ?_
              first | refine GT_st_g rfl rfl rfl rfl rfl rfl rfl (V_not rfl rfl) ?_ | refine GT_st_g rfl rfl rfl rfl rfl rfl rfl (V_notB rfl rfl) ?_
              refine GT_st rfl rfl rfl rfl (V_pick_t rfl rfl rfl) ?_
              refine GT_nil ?_
              refine GE_cond_t rfl ?_
              refine GE_seq ?_
              refine GE_slots (L' := []) trivial ?_
              refine GE_plain (.st 0 .nil) rfl ?_
              refine GT_st rfl rfl rfl rfl (V_assign rfl rfl) ?_
              refine GT_nil ?_
              refine GE_ret Tryz.func77 rfl (fun w hw => ?_)
              exact ⟨false, fun q => (by cases q), rfl, hw.nil⟩
        · obtain rfl : k = s.size := (by omega)
          refine GE_exit rfl ?_
          refine GE_seq ?_
          refine GE_slots (L' := []) trivial ?_
          refine GE_plain (.st 0 .nil) rfl ?_
          refine GT_st rfl rfl rfl rfl (V_assign rfl rfl) ?_
          refine GT_nil ?_
          refine GE_ret Tryz.func77 rfl (fun w hw => ?_)
          exact ⟨true, fun _ => ⟨hs, hall⟩, rfl, hw.nil⟩
      · exact ⟨Nat.zero_le _, fun i hi => by omega⟩
set_option maxRecDepth 20000 in
theorem C_refFormat {f : Fmt} : Con Tryz.prog 29 [f.val] w (fun e : Int => e = 0 → f.Ref) (fun e => I e) (fun _ => []) := by
  refine Ret_of (vs := [_]) hm none' Tryz.func29 rfl Tryz.ntmps29 rfl ?_
  dsimp only [slotsOf]
  refine GE_seq ?_
  refine GE_plain (.ld 0 [] (.st 1 .nil)) rfl ?_
  refine GT_box (z := [_, _, _, _, _, _, _, _]) rfl rfl rfl rfl rfl rfl rfl (fun _ => GR_nil) (fun b1 => ?_)
  refine GT_st rfl rfl rfl rfl (V_assign rfl rfl) ?_
  refine GT_nil ?_
  refine GE_seq ?_
  refine GE_seq ?_
  refine GE_plain (.st 0 (.st 1 (.ld 2 [] (.st 3 (.st 4 (.st 5 (.st 6 (.ld 7 [] (.st 8 (.st 9 (.st 10 (.st 11 (.st 12 (.st 13 (.st 14 (.st 15 (.ld 16 [] (.st 17 (.st 18 (.st 19 (.st 20 (.st 21 (.ld 22 [] (.st 23 (.st 24 (.st 25 (.st 26 (.st 27 (.ld 28 [] (.st 29 (.st 30 (.st 31 (.st 32 (.st 33 (.ld 34 [] (.st 35 (.st 36 (.st 37 (.st 38 (.st 39 (.ld 40 [] (.st 41 (.st 42 (.st 43 (.st 44 (.st 45 (.ld 46 [] (.st 47 (.st 48 .nil))))))))))))))))))))))))))))))))))))))))))))))))) rfl ?_
  first | refine GT_st rfl rfl rfl rfl (V_field rfl rfl fo_77_0) ?_ | refine GT_st rfl rfl rfl rfl (V_fieldA rfl rfl fo_77_0) ?_
  refine GT_st rfl rfl rfl rfl (V_load rfl rfl ag_9 (CellAt.item rfl)) ?_
  refine GT_call rfl rfl rfl rfl rfl rfl rfl rfl rn_77 (fun w hw => C_refName) (fun _ _ => GR_nil) (fun b hb => ?_)
  first | refine GT_st rfl rfl rfl rfl (V_not rfl rfl) ?_ | refine GT_st rfl rfl rfl rfl (V_notB rfl rfl) ?_
  refine GT_st rfl rfl rfl rfl (V_move rfl rfl) ?_
  first | refine GT_splitNot (d := 7) rfl (fun q1 => ?_) (fun q1 => ?_) | refine GT_split (d := 7) rfl (fun q1 => ?_) (fun q1 => ?_) | refine GT_splitNotB (d := 7) rfl (fun q1 => ?_) (fun q1 => ?_) | refine GT_splitB (d := 7) rfl (fun q1 => ?_) (fun q1 => ?_)
  · skip
    refine GT_skip rfl rfl rfl rfl rfl (by decide) rfl rfl ?_
    refine GT_skip rfl rfl rfl rfl rfl (by decide) rfl rfl ?_
    refine GT_skip_ld rfl rfl rfl rfl rfl (by decide) rfl rfl rfl (GR_nil) ?_
    refine GT_skip rfl rfl rfl rfl rfl (by decide) rfl rfl ?_
    refine GT_st rfl rfl rfl rfl (V_pick_t rfl rfl rfl) ?_
    refine GT_st rfl rfl rfl rfl (V_move rfl rfl) ?_
    refine GT_skip rfl rfl rfl rfl rfl (by decide) rfl rfl ?_
    refine GT_skip rfl rfl rfl rfl rfl (by decide) rfl rfl ?_
    refine GT_skip rfl rfl rfl rfl rfl (by decide) rfl rfl ?_
    refine GT_skip rfl rfl rfl rfl rfl (by decide) rfl rfl ?_
    refine GT_skip rfl rfl rfl rfl rfl (by decide) rfl rfl ?_
    refine GT_skip_ld rfl rfl rfl rfl rfl (by decide) rfl rfl rfl (GR_nil) ?_
    refine GT_skip rfl rfl rfl rfl rfl (by decide) rfl rfl ?_
    refine GT_st rfl rfl rfl rfl (V_pick_t rfl rfl rfl) ?_
    refine GT_st rfl rfl rfl rfl (V_move rfl rfl) ?_
    refine GT_skip rfl rfl rfl rfl rfl (by decide) rfl rfl ?_
    refine GT_skip rfl rfl rfl rfl rfl (by decide) rfl rfl ?_
    refine GT_skip_ld rfl rfl rfl rfl rfl (by decide) rfl rfl rfl (GR_nil) ?_
    refine GT_skip rfl rfl rfl rfl rfl (by decide) rfl rfl ?_
    refine GT_st rfl rfl rfl rfl (V_pick_t rfl rfl rfl) ?_
    refine GT_st rfl rfl rfl rfl (V_move rfl rfl) ?_
    refine GT_skip rfl rfl rfl rfl rfl (by decide) rfl rfl ?_
    refine GT_skip rfl rfl rfl rfl rfl (by decide) rfl rfl ?_
    refine GT_skip_ld rfl rfl rfl rfl rfl (by decide) rfl rfl rfl (GR_nil) ?_
    refine GT_skip rfl rfl rfl rfl rfl (by decide) rfl rfl ?_
    refine GT_st rfl rfl rfl rfl (V_pick_t rfl rfl rfl) ?_
    refine GT_st rfl rfl rfl rfl (V_move rfl rfl) ?_
    refine GT_skip rfl rfl rfl rfl rfl (by decide) rfl rfl ?_
    refine GT_skip rfl rfl rfl rfl rfl (by decide) rfl rfl ?_
    refine GT_skip_ld rfl rfl rfl rfl rfl (by decide) rfl rfl rfl (GR_nil) ?_
    refine GT_skip rfl rfl rfl rfl rfl (by decide) rfl rfl ?_
    refine GT_st rfl rfl rfl rfl (V_pick_t rfl rfl rfl) ?_
    refine GT_st rfl rfl rfl rfl (V_move rfl rfl) ?_
    refine GT_skip rfl rfl rfl rfl rfl (by decide) rfl rfl ?_
    refine GT_skip rfl rfl rfl rfl rfl (by decide) rfl rfl ?_
    refine GT_skip_ld rfl rfl rfl rfl rfl (by decide) rfl rfl rfl (GR_nil) ?_
    refine GT_skip rfl rfl rfl rfl rfl (by decide) rfl rfl ?_
    refine GT_st rfl rfl rfl rfl (V_pick_t rfl rfl rfl) ?_
    refine GT_st rfl rfl rfl rfl (V_move rfl rfl) ?_
    refine GT_skip rfl rfl rfl rfl rfl (by decide) rfl rfl ?_
    refine GT_skip rfl rfl rfl rfl rfl (by decide) rfl rfl ?_
    refine GT_skip_ld rfl rfl rfl rfl rfl (by decide) rfl rfl rfl (GR_nil) ?_
    refine GT_skip rfl rfl rfl rfl rfl (by decide) rfl rfl ?_
    refine GT_st rfl rfl rfl rfl (V_pick_t rfl rfl rfl) ?_
    refine GT_nil ?_
    refine GE_cond_t rfl ?_
    refine GE_seq ?_
    refine GE_slots (L' := []) trivial ?_
    refine GE_plain (.st 0 .nil) rfl ?_
    refine GT_st rfl rfl rfl rfl (V_assign rfl rfl) ?_
    refine GT_nil ?_
    refine GE_ret Tryz.func29 rfl (fun w hw => ?_)
    exact ⟨2, fun q => (by cases q), rfl, hw.nil⟩
  · skip
    first | refine GT_st_g rfl rfl rfl rfl rfl rfl rfl (V_field rfl rfl fo_77_1) ?_ | refine GT_st_g rfl rfl rfl rfl rfl rfl rfl (V_fieldA rfl rfl fo_77_1) ?_
    refine GT_st_g rfl rfl rfl rfl rfl rfl rfl (V_load rfl rfl ag_2 (CellAt.item rfl)) ?_
    refine GT_call0_g rfl rfl rfl rfl rfl rfl rfl rfl rfl rfl rfl rn_78 (fun w hw => C_within4) (GR_nil) ?_
    first | refine GT_st_g rfl rfl rfl rfl rfl rfl rfl (V_not rfl rfl) ?_ | refine GT_st_g rfl rfl rfl rfl rfl rfl rfl (V_notB rfl rfl) ?_
    refine GT_st rfl rfl rfl rfl (V_pick_f rfl rfl rfl) ?_
    refine GT_st rfl rfl rfl rfl (V_move rfl rfl) ?_
    first | refine GT_splitNot (d := 13) rfl (fun q2 => ?_) (fun q2 => ?_) | refine GT_split (d := 13) rfl (fun q2 => ?_) (fun q2 => ?_) | refine GT_splitNotB (d := 13) rfl (fun q2 => ?_) (fun q2 => ?_) | refine GT_splitB (d := 13) rfl (fun q2 => ?_) (fun q2 => ?_)
    · skip
      refine GT_skip rfl rfl rfl rfl rfl (by decide) rfl rfl ?_
      refine GT_skip rfl rfl rfl rfl rfl (by decide) rfl rfl ?_
      refine GT_skip rfl rfl rfl rfl rfl (by decide) rfl rfl ?_
      refine GT_skip rfl rfl rfl rfl rfl (by decide) rfl rfl ?_
      refine GT_skip rfl rfl rfl rfl rfl (by decide) rfl rfl ?_
      refine GT_skip_ld rfl rfl rfl rfl rfl (by decide) rfl rfl rfl (GR_nil) ?_
      refine GT_skip rfl rfl rfl rfl rfl (by decide) rfl rfl ?_
      refine GT_st rfl rfl rfl rfl (V_pick_t rfl rfl rfl) ?_
      refine GT_st rfl rfl rfl rfl (V_move rfl rfl) ?_
      refine GT_skip rfl rfl rfl rfl rfl (by decide) rfl rfl ?_
      refine GT_skip rfl rfl rfl rfl rfl (by decide) rfl rfl ?_
      refine GT_skip_ld rfl rfl rfl rfl rfl (by decide) rfl rfl rfl (GR_nil) ?_
      refine GT_skip rfl rfl rfl rfl rfl (by decide) rfl rfl ?_
      refine GT_st rfl rfl rfl rfl (V_pick_t rfl rfl rfl) ?_
      refine GT_st rfl rfl rfl rfl (V_move rfl rfl) ?_
      refine GT_skip rfl rfl rfl rfl rfl (by decide) rfl rfl ?_
      refine GT_skip rfl rfl rfl rfl rfl (by decide) rfl rfl ?_
      refine GT_skip_ld rfl rfl rfl rfl rfl (by decide) rfl rfl rfl (GR_nil) ?_
      refine GT_skip rfl rfl rfl rfl rfl (by decide) rfl rfl ?_
      refine GT_st rfl rfl rfl rfl (V_pick_t rfl rfl rfl) ?_
      refine GT_st rfl rfl rfl rfl (V_move rfl rfl) ?_
      refine GT_skip rfl rfl rfl rfl rfl (by decide) rfl rfl ?_
      refine GT_skip rfl rfl rfl rfl rfl (by decide) rfl rfl ?_
      refine GT_skip_ld rfl rfl rfl rfl rfl (by decide) rfl rfl rfl (GR_nil) ?_
      refine GT_skip rfl rfl rfl rfl rfl (by decide) rfl rfl ?_
      refine GT_st rfl rfl rfl rfl (V_pick_t rfl rfl rfl) ?_
      refine GT_st rfl rfl rfl rfl (V_move rfl rfl) ?_
      refine GT_skip rfl rfl rfl rfl rfl (by decide) rfl rfl ?_
      refine GT_skip rfl rfl rfl rfl rfl (by decide) rfl rfl ?_
      refine GT_skip_ld rfl rfl rfl rfl rfl (by decide) rfl rfl rfl (GR_nil) ?_
      refine GT_skip rfl rfl rfl rfl rfl (by decide) rfl rfl ?_
      refine GT_st rfl rfl rfl rfl (V_pick_t rfl rfl rfl) ?_
      refine GT_st rfl rfl rfl rfl (V_move rfl rfl) ?_
      refine GT_skip rfl rfl rfl rfl rfl (by decide) rfl rfl ?_
      refine GT_skip rfl rfl rfl rfl rfl (by decide) rfl rfl ?_
      refine GT_skip_ld rfl rfl rfl rfl rfl (by decide) rfl rfl rfl (GR_nil) ?_
      refine GT_skip rfl rfl rfl rfl rfl (by decide) rfl rfl ?_
      refine GT_st rfl rfl rfl rfl (V_pick_t rfl rfl rfl) ?_
      refine GT_nil ?_
      refine GE_cond_t rfl ?_
      refine GE_seq ?_
      refine GE_slots (L' := []) trivial ?_
      refine GE_plain (.st 0 .nil) rfl ?_
      refine GT_st rfl rfl rfl rfl (V_assign rfl rfl) ?_
      refine GT_nil ?_
      refine GE_ret Tryz.func29 rfl (fun w hw => ?_)
      exact ⟨2, fun q => (by cases q), rfl, hw.nil⟩
    · skip
      first | refine GT_st_g rfl rfl rfl rfl rfl rfl rfl (V_field rfl rfl fo_77_2) ?_ | refine GT_st_g rfl rfl rfl rfl rfl rfl rfl (V_fieldA rfl rfl fo_77_2) ?_
      refine GT_st_g rfl rfl rfl rfl rfl rfl rfl (V_load rfl rfl ag_2 (CellAt.item rfl)) ?_
      first | refine GT_st_g rfl rfl rfl rfl rfl rfl rfl (V_field rfl rfl fo_77_1) ?_ | refine GT_st_g rfl rfl rfl rfl rfl rfl rfl (V_fieldA rfl rfl fo_77_1) ?_
      refine GT_st_g rfl rfl rfl rfl rfl rfl rfl (V_load rfl rfl ag_2 (CellAt.item rfl)) ?_
      refine GT_st_g rfl rfl rfl rfl rfl rfl rfl (V_sub rfl rfl rfl (wrap_i64 (by omega))) ?_
      refine GT_call0_g rfl rfl rfl rfl rfl rfl rfl rfl rfl rfl rfl rn_78 (fun w hw => C_within4) (GR_nil) ?_
      first | refine GT_st_g rfl rfl rfl rfl rfl rfl rfl (V_not rfl rfl) ?_ | refine GT_st_g rfl rfl rfl rfl rfl rfl rfl (V_notB rfl rfl) ?_
      refine GT_st rfl rfl rfl rfl (V_pick_f rfl rfl rfl) ?_
      refine GT_st rfl rfl rfl rfl (V_move rfl rfl) ?_
      first | refine GT_splitNot (d := 22) rfl (fun q3 => ?_) (fun q3 => ?_) | refine GT_split (d := 22) rfl (fun q3 => ?_) (fun q3 => ?_) | refine GT_splitNotB (d := 22) rfl (fun q3 => ?_) (fun q3 => ?_) | refine GT_splitB (d := 22) rfl (fun q3 => ?_) (fun q3 => ?_)
      · skip
        refine GT_skip rfl rfl rfl rfl rfl (by decide) rfl rfl ?_
        refine GT_skip rfl rfl rfl rfl rfl (by decide) rfl rfl ?_
        refine GT_skip_ld rfl rfl rfl rfl rfl (by decide) rfl rfl rfl (GR_nil) ?_
        refine GT_skip rfl rfl rfl rfl rfl (by decide) rfl rfl ?_
        refine GT_st rfl rfl rfl rfl (V_pick_t rfl rfl rfl) ?_
        refine GT_st rfl rfl rfl rfl (V_move rfl rfl) ?_
        refine GT_skip rfl rfl rfl rfl rfl (by decide) rfl rfl ?_
        refine GT_skip rfl rfl rfl rfl rfl (by decide) rfl rfl ?_
        refine GT_skip_ld rfl rfl rfl rfl rfl (by decide) rfl rfl rfl (GR_nil) ?_
        refine GT_skip rfl rfl rfl rfl rfl (by decide) rfl rfl ?_
        refine GT_st rfl rfl rfl rfl (V_pick_t rfl rfl rfl) ?_
        refine GT_st rfl rfl rfl rfl (V_move rfl rfl) ?_
        refine GT_skip rfl rfl rfl rfl rfl (by decide) rfl rfl ?_
        refine GT_skip rfl rfl rfl rfl rfl (by decide) rfl rfl ?_
        refine GT_skip_ld rfl rfl rfl rfl rfl (by decide) rfl rfl rfl (GR_nil) ?_
        refine GT_skip rfl rfl rfl rfl rfl (by decide) rfl rfl ?_
        refine GT_st rfl rfl rfl rfl (V_pick_t rfl rfl rfl) ?_
        refine GT_st rfl rfl rfl rfl (V_move rfl rfl) ?_
        refine GT_skip rfl rfl rfl rfl rfl (by decide) rfl rfl ?_
        refine GT_skip rfl rfl rfl rfl rfl (by decide) rfl rfl ?_
        refine GT_skip_ld rfl rfl rfl rfl rfl (by decide) rfl rfl rfl (GR_nil) ?_
        refine GT_skip rfl rfl rfl rfl rfl (by decide) rfl rfl ?_
        refine GT_st rfl rfl rfl rfl (V_pick_t rfl rfl rfl) ?_
        refine GT_st rfl rfl rfl rfl (V_move rfl rfl) ?_
        refine GT_skip rfl rfl rfl rfl rfl (by decide) rfl rfl ?_
        refine GT_skip rfl rfl rfl rfl rfl (by decide) rfl rfl ?_
        refine GT_skip_ld rfl rfl rfl rfl rfl (by decide) rfl rfl rfl (GR_nil) ?_
        refine GT_skip rfl rfl rfl rfl rfl (by decide) rfl rfl ?_
        refine GT_st rfl rfl rfl rfl (V_pick_t rfl rfl rfl) ?_
        refine GT_nil ?_
        refine GE_cond_t rfl ?_
        refine GE_seq ?_
        refine GE_slots (L' := []) trivial ?_
        refine GE_plain (.st 0 .nil) rfl ?_
        refine GT_st rfl rfl rfl rfl (V_assign rfl rfl) ?_
        refine GT_nil ?_
        refine GE_ret Tryz.func29 rfl (fun w hw => ?_)
        exact ⟨2, fun q => (by cases q), rfl, hw.nil⟩
      · skip
        first | refine GT_st_g rfl rfl rfl rfl rfl rfl rfl (V_field rfl rfl fo_77_3) ?_ | refine GT_st_g rfl rfl rfl rfl rfl rfl rfl (V_fieldA rfl rfl fo_77_3) ?_
        refine GT_st_g rfl rfl rfl rfl rfl rfl rfl (V_load rfl rfl ag_2 (CellAt.item rfl)) ?_
        refine GT_call0_g rfl rfl rfl rfl rfl rfl rfl rfl rfl rfl rfl rn_78 (fun w hw => C_within4) (GR_nil) ?_
        first | refine GT_st_g rfl rfl rfl rfl rfl rfl rfl (V_not rfl rfl) ?_ | refine GT_st_g rfl rfl rfl rfl rfl rfl rfl (V_notB rfl rfl) ?_
        refine GT_st rfl rfl rfl rfl (V_pick_f rfl rfl rfl) ?_
        refine GT_st rfl rfl rfl rfl (V_move rfl rfl) ?_
        first | refine GT_splitNot (d := 28) rfl (fun q4 => ?_) (fun q4 => ?_) | refine GT_split (d := 28) rfl (fun q4 => ?_) (fun q4 => ?_) | refine GT_splitNotB (d := 28) rfl (fun q4 => ?_) (fun q4 => ?_) | refine GT_splitB (d := 28) rfl (fun q4 => ?_) (fun q4 => ?_)
        · skip
          refine GT_skip rfl rfl rfl rfl rfl (by decide) rfl rfl ?_
          refine GT_skip rfl rfl rfl rfl rfl (by decide) rfl rfl ?_
          refine GT_skip_ld rfl rfl rfl rfl rfl (by decide) rfl rfl rfl (GR_nil) ?_
          refine GT_skip rfl rfl rfl rfl rfl (by decide) rfl rfl ?_
          refine GT_st rfl rfl rfl rfl (V_pick_t rfl rfl rfl) ?_
          refine GT_st rfl rfl rfl rfl (V_move rfl rfl) ?_
          refine GT_skip rfl rfl rfl rfl rfl (by decide) rfl rfl ?_
          refine GT_skip rfl rfl rfl rfl rfl (by decide) rfl rfl ?_
          refine GT_skip_ld rfl rfl rfl rfl rfl (by decide) rfl rfl rfl (GR_nil) ?_
          refine GT_skip rfl rfl rfl rfl rfl (by decide) rfl rfl ?_
          refine GT_st rfl rfl rfl rfl (V_pick_t rfl rfl rfl) ?_
          refine GT_st rfl rfl rfl rfl (V_move rfl rfl) ?_
          refine GT_skip rfl rfl rfl rfl rfl (by decide) rfl rfl ?_
          refine GT_skip rfl rfl rfl rfl rfl (by decide) rfl rfl ?_
          refine GT_skip_ld rfl rfl rfl rfl rfl (by decide) rfl rfl rfl (GR_nil) ?_
          refine GT_skip rfl rfl rfl rfl rfl (by decide) rfl rfl ?_
          refine GT_st rfl rfl rfl rfl (V_pick_t rfl rfl rfl) ?_
          refine GT_st rfl rfl rfl rfl (V_move rfl rfl) ?_
          refine GT_skip rfl rfl rfl rfl rfl (by decide) rfl rfl ?_
          refine GT_skip rfl rfl rfl rfl rfl (by decide) rfl rfl ?_
          refine GT_skip_ld rfl rfl rfl rfl rfl (by decide) rfl rfl rfl (GR_nil) ?_
          refine GT_skip rfl rfl rfl rfl rfl (by decide) rfl rfl ?_
          refine GT_st rfl rfl rfl rfl (V_pick_t rfl rfl rfl) ?_
          refine GT_nil ?_
          refine GE_cond_t rfl ?_
          refine GE_seq ?_
          refine GE_slots (L' := []) trivial ?_
          refine GE_plain (.st 0 .nil) rfl ?_
          refine GT_st rfl rfl rfl rfl (V_assign rfl rfl) ?_
          refine GT_nil ?_
          refine GE_ret Tryz.func29 rfl (fun w hw => ?_)
          exact ⟨2, fun q => (by cases q), rfl, hw.nil⟩
        · skip
          first | refine GT_st_g rfl rfl rfl rfl rfl rfl rfl (V_field rfl rfl fo_77_4) ?_ | refine GT_st_g rfl rfl rfl rfl rfl rfl rfl (V_fieldA rfl rfl fo_77_4) ?_
          refine GT_st_g rfl rfl rfl rfl rfl rfl rfl (V_load rfl rfl ag_2 (CellAt.item rfl)) ?_
          refine GT_call0_g rfl rfl rfl rfl rfl rfl rfl rfl rfl rfl rfl rn_78 (fun w hw => C_within4) (GR_nil) ?_
          first | refine GT_st_g rfl rfl rfl rfl rfl rfl rfl (V_not rfl rfl) ?_ | refine GT_st_g rfl rfl rfl rfl rfl rfl rfl (V_notB rfl rfl) ?_
          refine GT_st rfl rfl rfl rfl (V_pick_f rfl rfl rfl) ?_
          refine GT_st rfl rfl rfl rfl (V_move rfl rfl) ?_
          first | refine GT_splitNot (d := 34) rfl (fun q5 => ?_) (fun q5 => ?_) | refine GT_split (d := 34) rfl (fun q5 => ?_) (fun q5 => ?_) | refine GT_splitNotB (d := 34) rfl (fun q5 => ?_) (fun q5 => ?_) | refine GT_splitB (d := 34) rfl (fun q5 => ?_) (fun q5 => ?_)
          · skip
            refine GT_skip rfl rfl rfl rfl rfl (by decide) rfl rfl ?_
            refine GT_skip rfl rfl rfl rfl rfl (by decide) rfl rfl ?_
            refine GT_skip_ld rfl rfl rfl rfl rfl (by decide) rfl rfl rfl (GR_nil) ?_
            refine GT_skip rfl rfl rfl rfl rfl (by decide) rfl rfl ?_
            refine GT_st rfl rfl rfl rfl (V_pick_t rfl rfl rfl) ?_
            refine GT_st rfl rfl rfl rfl (V_move rfl rfl) ?_
            refine GT_skip rfl rfl rfl rfl rfl (by decide) rfl rfl ?_
            refine GT_skip rfl rfl rfl rfl rfl (by decide) rfl rfl ?_
            refine GT_skip_ld rfl rfl rfl rfl rfl (by decide) rfl rfl rfl (GR_nil) ?_
            refine GT_skip rfl rfl rfl rfl rfl (by decide) rfl rfl ?_
            refine GT_st rfl rfl rfl rfl (V_pick_t rfl rfl rfl) ?_
            refine GT_st rfl rfl rfl rfl (V_move rfl rfl) ?_
            refine GT_skip rfl rfl rfl rfl rfl (by decide) rfl rfl ?_
            refine GT_skip rfl rfl rfl rfl rfl (by decide) rfl rfl ?_
            refine GT_skip_ld rfl rfl rfl rfl rfl (by decide) rfl rfl rfl (GR_nil) ?_
            refine GT_skip rfl rfl rfl rfl rfl (by decide) rfl rfl ?_
            refine GT_st rfl rfl rfl rfl (V_pick_t rfl rfl rfl) ?_
            refine GT_nil ?_
            refine GE_cond_t rfl ?_
            refine GE_seq ?_
            refine GE_slots (L' := []) trivial ?_
            refine GE_plain (.st 0 .nil) rfl ?_
            refine GT_st rfl rfl rfl rfl (V_assign rfl rfl) ?_
            refine GT_nil ?_
            refine GE_ret Tryz.func29 rfl (fun w hw => ?_)
            exact ⟨2, fun q => (by cases q), rfl, hw.nil⟩
          · skip
            first | refine GT_st_g rfl rfl rfl rfl rfl rfl rfl (V_field rfl rfl fo_77_5) ?_ | refine GT_st_g rfl rfl rfl rfl rfl rfl rfl (V_fieldA rfl rfl fo_77_5) ?_
            refine GT_st_g rfl rfl rfl rfl rfl rfl rfl (V_load rfl rfl ag_2 (CellAt.item rfl)) ?_
            refine GT_call0_g rfl rfl rfl rfl rfl rfl rfl rfl rfl rfl rfl rn_78 (fun w hw => C_within4) (GR_nil) ?_
            first | refine GT_st_g rfl rfl rfl rfl rfl rfl rfl (V_not rfl rfl) ?_ | refine GT_st_g rfl rfl rfl rfl rfl rfl rfl (V_notB rfl rfl) ?_
            refine GT_st rfl rfl rfl rfl (V_pick_f rfl rfl rfl) ?_
            refine GT_st rfl rfl rfl rfl (V_move rfl rfl) ?_
            first | refine GT_splitNot (d := 40) rfl (fun q6 => ?_) (fun q6 => ?_) | refine GT_split (d := 40) rfl (fun q6 => ?_) (fun q6 => ?_) | refine GT_splitNotB (d := 40) rfl (fun q6 => ?_) (fun q6 => ?_) | refine GT_splitB (d := 40) rfl (fun q6 => ?_) (fun q6 => ?_)
            · skip
              refine GT_skip rfl rfl rfl rfl rfl (by decide) rfl rfl ?_
              refine GT_skip rfl rfl rfl rfl rfl (by decide) rfl rfl ?_
              refine GT_skip_ld rfl rfl rfl rfl rfl (by decide) rfl rfl rfl (GR_nil) ?_
              refine GT_skip rfl rfl rfl rfl rfl (by decide) rfl rfl ?_
              refine GT_st rfl rfl rfl rfl (V_pick_t rfl rfl rfl) ?_
              refine GT_st rfl rfl rfl rfl (V_move rfl rfl) ?_
              refine GT_skip rfl rfl rfl rfl rfl (by decide) rfl rfl ?_
              refine GT_skip rfl rfl rfl rfl rfl (by decide) rfl rfl ?_
              refine GT_skip_ld rfl rfl rfl rfl rfl (by decide) rfl rfl rfl (GR_nil) ?_
              refine GT_skip rfl rfl rfl rfl rfl (by decide) rfl rfl ?_
              refine GT_st rfl rfl rfl rfl (V_pick_t rfl rfl rfl) ?_
              refine GT_nil ?_
              refine GE_cond_t rfl ?_
              refine GE_seq ?_
              refine GE_slots (L' := []) trivial ?_
              refine GE_plain (.st 0 .nil) rfl ?_
              refine GT_st rfl rfl rfl rfl (V_assign rfl rfl) ?_
              refine GT_nil ?_
              refine GE_ret Tryz.func29 rfl (fun w hw => ?_)
              exact ⟨2, fun q => (by cases q), rfl, hw.nil⟩
            · skip
              first | refine GT_st_g rfl rfl rfl rfl rfl rfl rfl (V_field rfl rfl fo_77_6) ?_ | refine GT_st_g rfl rfl rfl rfl rfl rfl rfl (V_fieldA rfl rfl fo_77_6) ?_
              refine GT_st_g rfl rfl rfl rfl rfl rfl rfl (V_load rfl rfl ag_2 (CellAt.item rfl)) ?_
              refine GT_call0_g rfl rfl rfl rfl rfl rfl rfl rfl rfl rfl rfl rn_78 (fun w hw => C_within4) (GR_nil) ?_
              first | refine GT_st_g rfl rfl rfl rfl rfl rfl rfl (V_not rfl rfl) ?_ | refine GT_st_g rfl rfl rfl rfl rfl rfl rfl (V_notB rfl rfl) ?_
              refine GT_st rfl rfl rfl rfl (V_pick_f rfl rfl rfl) ?_
              refine GT_st rfl rfl rfl rfl (V_move rfl rfl) ?_
              first | refine GT_splitNot (d := 46) rfl (fun q7 => ?_) (fun q7 => ?_) | refine GT_split (d := 46) rfl (fun q7 => ?_) (fun q7 => ?_) | refine GT_splitNotB (d := 46) rfl (fun q7 => ?_) (fun q7 => ?_) | refine GT_splitB (d := 46) rfl (fun q7 => ?_) (fun q7 => ?_)
              · skip
                refine GT_skip rfl rfl rfl rfl rfl (by decide) rfl rfl ?_
                refine GT_skip rfl rfl rfl rfl rfl (by decide) rfl rfl ?_
                refine GT_skip_ld rfl rfl rfl rfl rfl (by decide) rfl rfl rfl (GR_nil) ?_
                refine GT_skip rfl rfl rfl rfl rfl (by decide) rfl rfl ?_
                refine GT_st rfl rfl rfl rfl (V_pick_t rfl rfl rfl) ?_
                refine GT_nil ?_
                refine GE_cond_t rfl ?_
                refine GE_seq ?_
                refine GE_slots (L' := []) trivial ?_
                refine GE_plain (.st 0 .nil) rfl ?_
                refine GT_st rfl rfl rfl rfl (V_assign rfl rfl) ?_
                refine GT_nil ?_
                refine GE_ret Tryz.func29 rfl (fun w hw => ?_)
                exact ⟨2, fun q => (by cases q), rfl, hw.nil⟩
              · skip
                first | refine GT_st_g rfl rfl rfl rfl rfl rfl rfl (V_field rfl rfl fo_77_7) ?_ | refine GT_st_g rfl rfl rfl rfl rfl rfl rfl (V_fieldA rfl rfl fo_77_7) ?_
                refine GT_st_g rfl rfl rfl rfl rfl rfl rfl (V_load rfl rfl ag_2 (CellAt.item rfl)) ?_
                refine GT_call0_g rfl rfl rfl rfl rfl rfl rfl rfl rfl rfl rfl rn_78 (fun w hw => C_within4) (GR_nil) ?_
                first | refine GT_st_g rfl rfl rfl rfl rfl rfl rfl (V_not rfl rfl) ?_ | refine GT_st_g rfl rfl rfl rfl rfl rfl rfl (V_notB rfl rfl) ?_
                refine GT_st rfl rfl rfl rfl (V_pick_f rfl rfl rfl) ?_
                refine GT_nil ?_
                first | refine GE_condNot rfl (fun q8 => ?_) (fun q8 => ?_) | refine GE_cond rfl (fun q8 => ?_) (fun q8 => ?_) | refine GE_condNotB rfl (fun q8 => ?_) (fun q8 => ?_) | refine GE_condB rfl (fun q8 => ?_) (fun q8 => ?_)
                · skip
                  refine GE_seq ?_
                  refine GE_slots (L' := []) trivial ?_
                  refine GE_plain (.st 0 .nil) rfl ?_
                  refine GT_st rfl rfl rfl rfl (V_assign rfl rfl) ?_
                  refine GT_nil ?_
                  refine GE_ret Tryz.func29 rfl (fun w hw => ?_)
                  exact ⟨2, fun q => (by cases q), rfl, hw.nil⟩
                · skip
                  refine GE_skip ?_
                  refine GE_seq ?_
                  refine GE_slots (L' := []) trivial ?_
                  refine GE_plain (.st 0 .nil) rfl ?_
                  refine GT_st rfl rfl rfl rfl (V_assign rfl rfl) ?_
                  refine GT_nil ?_
                  refine GE_ret Tryz.func29 rfl (fun w hw => ?_)
                  exact ⟨0, fun _ => ⟨hb q1, by omega, by omega, by omega, by omega, by omega, by omega, by omega⟩, rfl, hw.nil⟩
end
end Go.Proofs.YtpbflnfcgcldkaaGreatDoor.Side
/- Whether an order of tracks is possible, walked. -/
namespace Go.Proofs.YtpbflnfcgcldkaaGreatDoor.Side
open Go.Sx Go.Proofs Go.RowKit
section
variable {w : World} {A A2 : Option Addr} {c c2 g : Nat} {f : Fmt} {ts : List Trk} {od : List Int}
theorem C_widthG {t : Trk} {n : Nat} (hf : f.Ok) (ht : t.Ok) (hb : BlkAt w g (plC f A n c) 304) : Con0 Tryz.prog 236 [ptr g 0, .agg #[I t.long, I t.pitch, I t.least]] w (I (wid f t)) := C_width hf ht hb
def atq (f : Fmt) (ts : List Trk) (od : List Int) : Nat → Int
  | 0 => f.outer - f.lead
  | k + 1 => (if 0 < k then atq f ts od k - f.gap else atq f ts od k) - wid f (ts.getD (od.getD k default).toNat default)
def LayOk (f : Fmt) (ts : List Trk) (od : List Int) : Prop := (∀ k, k < od.length → (ts.getD (od.getD k default).toNat default).least ≤ atq f ts od (k + 1)) ∧ f.inner ≤ atq f ts od od.length - f.tail
def OdOk (ts : List Trk) (od : List Int) : Prop := od.length ≤ 24 ∧ ∀ x ∈ od, 0 ≤ x ∧ x < ts.length
theorem od_tk {k : Nat} (ho : OdOk ts od) (hk : k < od.length) : (od.getD k default).toNat < ts.length ∧ (((od.getD k default).toNat : Nat) : Int) = od.getD k default := by
  have := ho.2 _ (getD_memT hk); omega
theorem atq_bd (hf : f.Ok) (ht : ∀ t ∈ ts, t.Ok) (ho : OdOk ts od) : ∀ k, k ≤ od.length → -100000000000 * (k : Int) - 4194304 ≤ atq f ts od k ∧ atq f ts od k ≤ 4194304
  | 0, _ => by have h1 := hf.outer; have h2 := hf.lead; unfold atq; omega
  | k + 1, hk => by
    have ih := atq_bd hf ht ho k (by omega)
    have h1 := hf.gap
    obtain ⟨_, _, h2⟩ := wid_bd hf (ht _ (getD_memT (od_tk ho (k := k) (by omega)).1))
    rw [atq]
    split <;> omega
set_option maxRecDepth 20000 in
set_option maxHeartbeats 1000000 in
theorem C_layG (hf : f.Ok) (ht : ∀ t ∈ ts, t.Ok) (hb : BlkAt w g (plC f A ts.length c) 304) (h : RdL w 3 eTrk A ts) (hr : RdL w 1 eN A2 od) (ho : OdOk ts od) :
    Con Tryz.prog 246 [ptr g 0, .slice A2 od.length c2] w (fun y : Value × Value × Int => y.2.2 = 0 ↔ LayOk f ts od) (fun y => .tuple #[y.1, y.2.1, I y.2.2]) (fun _ => []) := by
  have h1 := hf.outer
  have h2 := hf.lead
  have h3 := hf.tail
  have h4 := hf.gap
  have hob := ho.1
  refine Ret_of (vs := [_, _]) hm none' Tryz.func246 rfl Tryz.ntmps246 rfl ?_
  dsimp only [slotsOf]
  refine GE_seq ?_
  refine GE_plain (.st 0 (.st 1 (.st 2 .nil))) rfl ?_
  refine GT_st rfl rfl rfl rfl (V_assign rfl rfl) ?_
  refine GT_st rfl rfl rfl rfl (V_assign rfl rfl) ?_
  refine GT_st rfl rfl rfl rfl (V_assign rfl rfl) ?_
  refine GT_nil ?_
  refine GE_seq ?_
  refine GE_plain (.st 0 .nil) rfl ?_
  refine GT_st rfl rfl rfl rfl (V_assign rfl rfl) ?_
  refine GT_nil ?_
  refine GE_seq ?_
  refine GE_drawn (.st 0 (.st 1 (.st 2 (.st 3 (.st 4 (.st 5 (.st 6 (.st 7 (.st 8 (.st 9 (.st 10 (.st 11 .nil)))))))))))) [] (by decide +kernel) ?_
  refine GT_st rfl rfl rfl rfl (V_move rfl rfl) ?_
  first | refine GT_st rfl rfl rfl rfl (V_nilCheck rfl rfl) ?_ | refine GT_st rfl rfl rfl rfl (V_nilCheck_func rfl rfl) ?_ | refine GT_st rfl rfl rfl rfl (V_nilCheck_yield rfl rfl) ?_
  first | refine GT_st rfl rfl rfl rfl (V_field rfl rfl fo_304_0) ?_ | refine GT_st rfl rfl rfl rfl (V_fieldA rfl rfl fo_304_0) ?_
  first | refine GT_st rfl rfl rfl rfl (V_field rfl rfl fo_77_1) ?_ | refine GT_st rfl rfl rfl rfl (V_fieldA rfl rfl fo_77_1) ?_
  first | refine GT_st rfl rfl rfl rfl (V_load rfl rfl ag_2 (CellAt.item rfl)) ?_ | refine GT_st rfl rfl rfl rfl (V_load rfl rfl ag_2 (CellAt.old (hb.cell rfl) (noM _))) ?_
  refine GT_st rfl rfl rfl rfl (V_move rfl rfl) ?_
  first | refine GT_st rfl rfl rfl rfl (V_nilCheck rfl rfl) ?_ | refine GT_st rfl rfl rfl rfl (V_nilCheck_func rfl rfl) ?_ | refine GT_st rfl rfl rfl rfl (V_nilCheck_yield rfl rfl) ?_
  first | refine GT_st rfl rfl rfl rfl (V_field rfl rfl fo_304_0) ?_ | refine GT_st rfl rfl rfl rfl (V_fieldA rfl rfl fo_304_0) ?_
  first | refine GT_st rfl rfl rfl rfl (V_field rfl rfl fo_77_4) ?_ | refine GT_st rfl rfl rfl rfl (V_fieldA rfl rfl fo_77_4) ?_
  first | refine GT_st rfl rfl rfl rfl (V_load rfl rfl ag_2 (CellAt.item rfl)) ?_ | refine GT_st rfl rfl rfl rfl (V_load rfl rfl ag_2 (CellAt.old (hb.cell rfl) (noM _))) ?_
  refine GT_st rfl rfl rfl rfl (V_sub rfl rfl rfl (wrap_i64 (by omega))) ?_
  refine GT_st rfl rfl rfl rfl (V_assign rfl rfl) ?_
  refine GT_nil ?_
  refine GE_seq ?_
  refine GE_seq ?_
  refine GE_slots (L' := [(0, _), (1, _), (7, _), (8, _)]) ⟨rfl, rfl, rfl, rfl, trivial⟩ ?_
  refine GE_plain (.st 0 (.st 1 (.st 2 .nil))) rfl ?_
  refine GT_st rfl rfl rfl rfl (V_move rfl rfl) ?_
  refine GT_st rfl rfl rfl rfl (V_len rfl Tryz.underlying38 rfl) ?_
  refine GT_st rfl rfl rfl rfl (V_move rfl rfl) ?_
  refine GT_nil ?_
  refine GE_block ?_
  refine GE_to (GE_loop (ι := Nat × List Bnd × (Option Addr × Nat × Items)) (fun z => od.length - z.1) (fun z => [(0, ptr g 0), (1, .slice A2 od.length c2), (7, .slice z.2.2.1 z.2.1.length z.2.2.2.1), (8, I (atq f ts od z.1)), (23, .slice A2 od.length c2), (24, I od.length), (25, I z.1)]) (fun z => z.2.2.2.2) (fun z => z.1 ≤ od.length ∧ z.2.1.length = z.1 ∧ Own 3 491 eBnd z.2.1 (.slice z.2.2.1 z.2.1.length z.2.2.2.1) z.2.2.2.2 ∧ ∀ j, j < z.1 → (ts.getD (od.getD j default).toNat default).least ≤ atq f ts od (j + 1)) ?_ (0, [], (none, 0, [])) ?_) ⟨rfl, rfl, rfl, rfl, rfl, rfl, rfl, trivial⟩ HS.nil
  · rintro ⟨k, bl, y⟩ ⟨hk, hbl, hO, hall⟩ ih; dsimp only at hk hbl hO hall ih ⊢
    refine GE_seq ?_
    refine GE_plain (.st 0 .nil) rfl ?_
    refine GT_st rfl rfl rfl rfl (V_lss rfl rfl rfl) ?_
    refine GT_nil ?_
    refine GE_seq ?_
    first | refine GE_condNot rfl (fun q1 => ?_) (fun q1 => ?_) | refine GE_cond rfl (fun q1 => ?_) (fun q1 => ?_) | refine GE_condNotB rfl (fun q1 => ?_) (fun q1 => ?_) | refine GE_condB rfl (fun q1 => ?_) (fun q1 => ?_)
    · have hkl : k < od.length := (by omega); obtain ⟨htk1, htk2⟩ := od_tk ho hkl; have hto := ht _ (getD_memT htk1); obtain ⟨_, _, h5⟩ := wid_bd hf hto; have hab := atq_bd hf ht ho k hk; have ha2 := atq_bd hf ht ho (k + 1) hkl; have hsu : atq f ts od (k + 1) = (if 0 < k then atq f ts od k - f.gap else atq f ts od k) - wid f (ts.getD (od.getD k default).toNat default) := rfl
      refine GE_skip ?_
      refine GE_seq ?_
      refine GE_block ?_
      refine GE_seq ?_
      refine GE_plain (.st 0 (.st 1 (.st 2 (.st 3 (.st 4 .nil))))) rfl ?_
      refine GT_st rfl rfl rfl rfl (V_move rfl rfl) ?_
      refine GT_st rfl rfl rfl rfl (V_index rfl rfl rfl Tryz.underlying38 sz_3 (k := k) rfl hkl (hr.isSome hkl)) ?_
      refine GT_st rfl rfl rfl rfl (V_load rfl rfl ag_3 (hr.at0 noM hkl rfl)) ?_
      refine GT_st rfl rfl rfl rfl (V_assign rfl rfl) ?_
      refine GT_st rfl rfl rfl rfl (V_assign rfl rfl) ?_
      refine GT_nil ?_
      refine GE_cut (ι := Unit) (fun _ => [(0, ptr g 0), (1, .slice A2 od.length c2), (7, .slice y.1 bl.length y.2.1), (8, I (if 0 < k then atq f ts od k - f.gap else atq f ts od k)), (9, I k), (10, I (od.getD k default)), (23, .slice A2 od.length c2), (24, I od.length), (25, I k)]) (fun _ => y.2.2) (fun _ => True) ?_ (fun hk => ?_)
      · intro _ hx
        generalize hat : (if 0 < k then atq f ts od k - f.gap else atq f ts od k) = atG at *
        refine GE_seq ?_
        refine GE_plain (.st 0 (.st 1 (.st 2 (.st 3 (.st 4 (.st 5 (.st 6 (.st 7 (.st 8 (.st 9 (.st 10 (.ld 11 [] (.st 12 (.st 13 (.ld 14 [] (.ld 15 [] .nil)))))))))))))))) rfl ?_
        refine GT_st rfl rfl rfl rfl (V_move rfl rfl) ?_
        refine GT_st rfl rfl rfl rfl (V_move rfl rfl) ?_
        refine GT_st rfl rfl rfl rfl (V_move rfl rfl) ?_
        refine GT_st rfl rfl rfl rfl (V_move rfl rfl) ?_
        refine GT_st rfl rfl rfl rfl (V_move rfl rfl) ?_
        first | refine GT_st rfl rfl rfl rfl (V_nilCheck rfl rfl) ?_ | refine GT_st rfl rfl rfl rfl (V_nilCheck_func rfl rfl) ?_ | refine GT_st rfl rfl rfl rfl (V_nilCheck_yield rfl rfl) ?_
        first | refine GT_st rfl rfl rfl rfl (V_field rfl rfl fo_304_1) ?_ | refine GT_st rfl rfl rfl rfl (V_fieldA rfl rfl fo_304_1) ?_
        first | refine GT_st rfl rfl rfl rfl (V_load rfl rfl ag_95 (CellAt.item rfl)) ?_ | refine GT_st rfl rfl rfl rfl (V_load rfl rfl ag_95 (CellAt.old (hb.cell rfl) (noM _))) ?_
        refine GT_st rfl rfl rfl rfl (V_move rfl rfl) ?_
        refine GT_st rfl rfl rfl rfl (V_index rfl rfl rfl Tryz.underlying95 sz_301 (k := (od.getD k default).toNat) htk2.symm htk1 (h.isSome htk1)) ?_
        refine GT_st rfl rfl rfl rfl (V_loadN (vs := [_, _, _]) rfl rfl ag_301 sz_301 rfl (show CellsAt _ _ _ (eTrk (ts.getD (od.getD k default).toNat default)) from h.ats noM htk1)) ?_
        refine GT_call0 rfl rfl rfl rfl rfl rfl rfl rfl rn_236 (fun w hw => C_widthG hf hto (hb.sh hw)) (GR_nil) ?_
        refine GT_st rfl rfl rfl rfl (V_sub rfl rfl rfl ((wrap_i64 (by omega)).trans hsu.symm)) ?_
        refine GT_st rfl rfl rfl rfl (V_build (vs := [_, _, _]) rfl rfl zc_491 pl_491 sa_491 rfl) ?_
        refine GT_alloc rfl rfl rfl rfl rfl zc_491 (fun _ => GR_nil) (fun b11 => ?_)
        refine GT_store (vs := [_, _, _]) (l' := [_, _, _]) rfl rfl rfl rfl rfl rfl rfl sz_491 rfl rfl (Nat.le_of_ble_eq_true rfl) rfl (GR_nil) ?_
        refine GT_nil ?_
        refine GE_seq ?_
        refine GE_seq ?_
        refine GE_slots (L' := [(0, _), (1, _), (7, _), (9, _), (10, _), (11, _), (23, _), (24, _), (25, _)]) ⟨rfl, rfl, rfl, rfl, rfl, rfl, rfl, rfl, rfl, trivial⟩ ?_
        refine GE_plain (.st 0 (.st 1 (.st 2 .nil))) rfl ?_
        first | refine GT_st rfl rfl rfl rfl (V_field rfl rfl fo_491_2) ?_ | refine GT_st rfl rfl rfl rfl (V_fieldA rfl rfl fo_491_2) ?_
        first | refine GT_st rfl rfl rfl rfl (V_load rfl rfl ag_2 (CellAt.item rfl)) ?_ | refine GT_st rfl rfl rfl rfl (V_load rfl rfl ag_2 (CellAt.old (hb.cell rfl) (noM _))) ?_
        refine GT_st rfl rfl rfl rfl (V_assign rfl rfl) ?_
        refine GT_nil ?_
        refine GE_seq ?_
        refine GE_plain (.st 0 (.st 1 (.st 2 (.st 3 (.st 4 (.st 5 (.st 6 (.st 7 (.st 8 (.st 9 .nil)))))))))) rfl ?_
        refine GT_st rfl rfl rfl rfl (V_move rfl rfl) ?_
        refine GT_st rfl rfl rfl rfl (V_move rfl rfl) ?_
        first | refine GT_st rfl rfl rfl rfl (V_nilCheck rfl rfl) ?_ | refine GT_st rfl rfl rfl rfl (V_nilCheck_func rfl rfl) ?_ | refine GT_st rfl rfl rfl rfl (V_nilCheck_yield rfl rfl) ?_
        first | refine GT_st rfl rfl rfl rfl (V_field rfl rfl fo_304_1) ?_ | refine GT_st rfl rfl rfl rfl (V_fieldA rfl rfl fo_304_1) ?_
        first | refine GT_st rfl rfl rfl rfl (V_load rfl rfl ag_95 (CellAt.item rfl)) ?_ | refine GT_st rfl rfl rfl rfl (V_load rfl rfl ag_95 (CellAt.old (hb.cell rfl) (noM _))) ?_
        refine GT_st rfl rfl rfl rfl (V_move rfl rfl) ?_
        refine GT_st rfl rfl rfl rfl (V_index rfl rfl rfl Tryz.underlying95 sz_301 (k := (od.getD k default).toNat) htk2.symm htk1 (h.isSome htk1)) ?_
        first | refine GT_st rfl rfl rfl rfl (V_field rfl rfl fo_301_2) ?_ | refine GT_st rfl rfl rfl rfl (V_fieldA rfl rfl fo_301_2) ?_
        refine GT_st rfl rfl rfl rfl (V_load rfl rfl ag_2 (show CellAt _ _ _ (I (ts.getD (od.getD k default).toNat default).least) from h.at1 noM htk1 rfl)) ?_
        refine GT_st rfl rfl rfl rfl (V_lss rfl rfl rfl) ?_
        refine GT_nil ?_
        first | refine GE_condNot rfl (fun q3 => ?_) (fun q3 => ?_) | refine GE_cond rfl (fun q3 => ?_) (fun q3 => ?_) | refine GE_condNotB rfl (fun q3 => ?_) (fun q3 => ?_) | refine GE_condB rfl (fun q3 => ?_) (fun q3 => ?_)
        · skip
          refine GE_seq ?_
          refine GE_slots (L' := [(9, _)]) ⟨rfl, trivial⟩ ?_
          refine GE_plain (.st 0 (.st 1 (.st 2 (.st 3 .nil)))) rfl ?_
          refine GT_st rfl rfl rfl rfl (V_move rfl rfl) ?_
          refine GT_st rfl rfl rfl rfl (V_assign rfl rfl) ?_
          refine GT_st rfl rfl rfl rfl (V_assign rfl rfl) ?_
          refine GT_st rfl rfl rfl rfl (V_assign rfl rfl) ?_
          refine GT_nil ?_
          refine GE_ret Tryz.func246 ⟨_, _, _, rfl, rfl, rfl, rfl⟩ (fun w hw => ?_)
          exact ⟨(_, _, 20), ⟨fun e => (by cases e), fun e => absurd (e.1 k hkl) (by omega)⟩, rfl, hw.nil⟩
        · skip
          refine GE_skip ?_
          refine GE_slots (L' := [(0, _), (1, _), (7, _), (8, _), (11, _), (23, _), (24, _), (25, _)]) ⟨rfl, rfl, rfl, rfl, rfl, rfl, rfl, rfl, trivial⟩ ?_
          refine GE_plain (.st 0 (.st 1 (.ld 2 [] (.ld 3 [] (.ld 4 [] .nil))))) rfl ?_
          refine GT_st rfl rfl rfl rfl (V_move rfl rfl) ?_
          refine GT_st rfl rfl rfl rfl (V_loadN (vs := [_, _, _]) rfl rfl ag_491 sz_491 rfl (CellsAt.item rfl)) ?_
          refine GT_buildSlice (z := [_, _, _]) rfl rfl rfl rfl rfl Tryz.underlying433 zc_491 sz_491 (by decide) rfl rfl (fun _ => GR_nil) (fun b68 => ?_)
          refine GT_append (enc := eBnd) (l := bl) (m := [⟨od.getD k default, atG, atq f ts od (k + 1)⟩]) rfl rfl rfl rfl rfl rfl rfl hO (fun w m => RdL.own' m eBnd_len) Tryz.underlying433 zc_491 sz_491 ⟨rfl, by decide⟩ by_491 ⟨by simp only [List.length_singleton]; omega, by simp only [List.length_singleton]; omega⟩ eBnd_len eBnd_one (fun _ _ _ _ => GR_nil) (fun A3 c3 I3 hO3 => ?_)
          refine GT_ldv rfl rfl rfl rfl rfl (V_assign rfl rfl) (GR_nil) ?_
          refine GT_nil ?_
          refine GE_inBlock ?_
          refine GE_slots (L' := [(0, _), (1, _), (7, _), (8, _), (23, _), (24, _), (25, _)]) ⟨rfl, rfl, rfl, rfl, rfl, rfl, rfl, trivial⟩ ?_
          refine GE_plain (.st 0 (.ld 1 [] .nil)) rfl ?_
          refine GT_st rfl rfl rfl rfl (V_add rfl rfl rfl (wrap_i64 (by omega))) ?_
          refine GT_ldv rfl rfl rfl rfl rfl (V_move rfl rfl) (GR_nil) ?_
          refine GT_nil ?_
          exact GE_to (ih (k + 1, bl ++ [⟨od.getD k default, atG, atq f ts od (k + 1)⟩], (A3, c3, I3)) ⟨by dsimp only; omega, by dsimp only; rw [List.length_append, hbl]; rfl, hO3, fun j hj => by dsimp only at hj; by_cases e : j = k; (subst e; omega); exact hall j (by omega)⟩ (by dsimp only; omega)) ⟨rfl, rfl, rfl, rfl, rfl, rfl, rfl, trivial⟩ HS.last
      · skip
        refine GE_seq ?_
        refine GE_slots (L' := [(0, _), (1, _), (7, _), (8, _), (9, _), (10, _), (23, _), (24, _), (25, _)]) ⟨rfl, rfl, rfl, rfl, rfl, rfl, rfl, rfl, rfl, trivial⟩ ?_
        refine GE_plain (.st 0 (.st 1 .nil)) rfl ?_
        refine GT_st rfl rfl rfl rfl (V_move rfl rfl) ?_
        refine GT_st rfl rfl rfl rfl (V_gtr rfl rfl rfl) ?_
        refine GT_nil ?_
        first | refine GE_condNot rfl (fun q2 => ?_) (fun q2 => ?_) | refine GE_cond rfl (fun q2 => ?_) (fun q2 => ?_) | refine GE_condNotB rfl (fun q2 => ?_) (fun q2 => ?_) | refine GE_condB rfl (fun q2 => ?_) (fun q2 => ?_)
        · skip
          refine GE_plain (.st 0 (.st 1 (.st 2 (.st 3 (.st 4 (.st 5 (.st 6 (.ld 7 [] .nil)))))))) rfl ?_
          refine GT_st rfl rfl rfl rfl (V_move rfl rfl) ?_
          refine GT_st rfl rfl rfl rfl (V_move rfl rfl) ?_
          first | refine GT_st rfl rfl rfl rfl (V_nilCheck rfl rfl) ?_ | refine GT_st rfl rfl rfl rfl (V_nilCheck_func rfl rfl) ?_ | refine GT_st rfl rfl rfl rfl (V_nilCheck_yield rfl rfl) ?_
          first | refine GT_st rfl rfl rfl rfl (V_field rfl rfl fo_304_0) ?_ | refine GT_st rfl rfl rfl rfl (V_fieldA rfl rfl fo_304_0) ?_
          first | refine GT_st rfl rfl rfl rfl (V_field rfl rfl fo_77_5) ?_ | refine GT_st rfl rfl rfl rfl (V_fieldA rfl rfl fo_77_5) ?_
          first | refine GT_st rfl rfl rfl rfl (V_load rfl rfl ag_2 (CellAt.item rfl)) ?_ | refine GT_st rfl rfl rfl rfl (V_load rfl rfl ag_2 (CellAt.old (hb.cell rfl) (noM _))) ?_
          refine GT_st rfl rfl rfl rfl (V_sub rfl rfl rfl (wrap_i64 (by omega))) ?_
          refine GT_ldv rfl rfl rfl rfl rfl (V_assign rfl rfl) (GR_nil) ?_
          refine GT_nil ?_
          exact GE_to (hk () trivial) ⟨rfl, rfl, rfl, lookI rfl (by first | rw [if_pos (by omega)] | rw [if_neg (by omega)]), rfl, rfl, rfl, rfl, rfl, trivial⟩ HS.last
        · skip
          refine GE_skip ?_
          exact GE_to (hk () trivial) ⟨rfl, rfl, rfl, lookI rfl (by first | rw [if_pos (by omega)] | rw [if_neg (by omega)]), rfl, rfl, rfl, rfl, rfl, trivial⟩ HS.last
    · obtain rfl : k = od.length := (by omega); have hab := atq_bd hf ht ho od.length hk
      refine GE_exit rfl ?_
      refine GE_seq ?_
      refine GE_seq ?_
      refine GE_slots (L' := [(0, _), (1, _), (7, _), (8, _)]) ⟨rfl, rfl, rfl, rfl, trivial⟩ ?_
      refine GE_drawn (.st 0 (.st 1 (.st 2 (.st 3 (.st 4 (.st 5 (.st 6 (.st 7 (.st 8 (.st 9 (.st 10 (.st 11 (.st 12 .nil))))))))))))) [] (by decide +kernel) ?_
      refine GT_st rfl rfl rfl rfl (V_move rfl rfl) ?_
      refine GT_st rfl rfl rfl rfl (V_move rfl rfl) ?_
      first | refine GT_st rfl rfl rfl rfl (V_nilCheck rfl rfl) ?_ | refine GT_st rfl rfl rfl rfl (V_nilCheck_func rfl rfl) ?_ | refine GT_st rfl rfl rfl rfl (V_nilCheck_yield rfl rfl) ?_
      first | refine GT_st rfl rfl rfl rfl (V_field rfl rfl fo_304_0) ?_ | refine GT_st rfl rfl rfl rfl (V_fieldA rfl rfl fo_304_0) ?_
      first | refine GT_st rfl rfl rfl rfl (V_field rfl rfl fo_77_6) ?_ | refine GT_st rfl rfl rfl rfl (V_fieldA rfl rfl fo_77_6) ?_
      first | refine GT_st rfl rfl rfl rfl (V_load rfl rfl ag_2 (CellAt.item rfl)) ?_ | refine GT_st rfl rfl rfl rfl (V_load rfl rfl ag_2 (CellAt.old (hb.cell rfl) (noM _))) ?_
      refine GT_st rfl rfl rfl rfl (V_sub rfl rfl rfl (wrap_i64 (by omega))) ?_
      refine GT_st rfl rfl rfl rfl (V_move rfl rfl) ?_
      first | refine GT_st rfl rfl rfl rfl (V_nilCheck rfl rfl) ?_ | refine GT_st rfl rfl rfl rfl (V_nilCheck_func rfl rfl) ?_ | refine GT_st rfl rfl rfl rfl (V_nilCheck_yield rfl rfl) ?_
      first | refine GT_st rfl rfl rfl rfl (V_field rfl rfl fo_304_0) ?_ | refine GT_st rfl rfl rfl rfl (V_fieldA rfl rfl fo_304_0) ?_
      first | refine GT_st rfl rfl rfl rfl (V_field rfl rfl fo_77_2) ?_ | refine GT_st rfl rfl rfl rfl (V_fieldA rfl rfl fo_77_2) ?_
      first | refine GT_st rfl rfl rfl rfl (V_load rfl rfl ag_2 (CellAt.item rfl)) ?_ | refine GT_st rfl rfl rfl rfl (V_load rfl rfl ag_2 (CellAt.old (hb.cell rfl) (noM _))) ?_
      refine GT_st rfl rfl rfl rfl (V_lss rfl rfl rfl) ?_
      refine GT_nil ?_
      first | refine GE_condNot rfl (fun q4 => ?_) (fun q4 => ?_) | refine GE_cond rfl (fun q4 => ?_) (fun q4 => ?_) | refine GE_condNotB rfl (fun q4 => ?_) (fun q4 => ?_) | refine GE_condB rfl (fun q4 => ?_) (fun q4 => ?_)
      · skip
        refine GE_seq ?_
        refine GE_slots (L' := [(1, _)]) ⟨rfl, trivial⟩ ?_
        refine GE_plain (.st 0 (.st 1 (.st 2 (.st 3 (.st 4 .nil))))) rfl ?_
        refine GT_st rfl rfl rfl rfl (V_move rfl rfl) ?_
        refine GT_st rfl rfl rfl rfl (V_len rfl Tryz.underlying38 rfl) ?_
        refine GT_st rfl rfl rfl rfl (V_assign rfl rfl) ?_
        refine GT_st rfl rfl rfl rfl (V_assign rfl rfl) ?_
        refine GT_st rfl rfl rfl rfl (V_assign rfl rfl) ?_
        refine GT_nil ?_
        refine GE_ret Tryz.func246 ⟨_, _, _, rfl, rfl, rfl, rfl⟩ (fun w hw => ?_)
        exact ⟨(_, _, 14), ⟨fun e => (by cases e), fun e => absurd e.2 (by omega)⟩, rfl, hw.nil⟩
      · skip
        refine GE_skip ?_
        refine GE_seq ?_
        refine GE_slots (L' := [(1, _), (7, _)]) ⟨rfl, rfl, trivial⟩ ?_
        refine GE_plain (.st 0 (.st 1 (.st 2 (.st 3 (.st 4 (.st 5 .nil)))))) rfl ?_
        refine GT_st rfl rfl rfl rfl (V_move rfl rfl) ?_
        refine GT_st rfl rfl rfl rfl (V_move rfl rfl) ?_
        refine GT_st rfl rfl rfl rfl (V_len rfl Tryz.underlying38 rfl) ?_
        refine GT_st rfl rfl rfl rfl (V_assign rfl rfl) ?_
        refine GT_st rfl rfl rfl rfl (V_assign rfl rfl) ?_
        refine GT_st rfl rfl rfl rfl (V_assign rfl rfl) ?_
        refine GT_nil ?_
        refine GE_ret Tryz.func246 ⟨_, _, _, rfl, rfl, rfl, rfl⟩ (fun w hw => ?_)
        exact ⟨(_, _, 0), ⟨fun _ => ⟨hall, by omega⟩, fun _ => rfl⟩, rfl, hw.nil⟩
  · exact ⟨Nat.zero_le _, rfl, Own.nil, fun j hj => by omega⟩
theorem C_possibleG (hf : f.Ok) (ht : ∀ t ∈ ts, t.Ok) (hb : BlkAt w g (plC f A ts.length c) 304) (h : RdL w 3 eTrk A ts) (hr : RdL w 1 eN A2 od) (ho : OdOk ts od) :
    Con Tryz.prog 204 [ptr g 0, .slice A2 od.length c2] w (fun b : Bool => b = true ↔ LayOk f ts od) (fun b => .bool b) (fun _ => []) := by
  refine Ret_of (vs := [_, _]) hm none' Tryz.func204 rfl Tryz.ntmps204 rfl ?_
  dsimp only [slotsOf]
  refine GE_seq ?_
  refine GE_plain (.st 0 .nil) rfl ?_
  refine GT_st rfl rfl rfl rfl (V_assign rfl rfl) ?_
  refine GT_nil ?_
  refine GE_seq ?_
  refine GE_plain (.st 0 (.st 1 (.ld 2 [] (.st 3 (.st 4 (.st 5 (.st 6 (.st 7 (.st 8 (.st 9 .nil)))))))))) rfl ?_
  refine GT_st rfl rfl rfl rfl (V_move rfl rfl) ?_
  refine GT_st rfl rfl rfl rfl (V_move rfl rfl) ?_
  refine GT_call rfl rfl rfl rfl rfl rfl rfl rfl rn_246 (fun w hw => C_layG (c2 := c2) hf ht (hb.sh hw) (h.sh hw) (hr.sh hw) ho) (fun _ _ => GR_nil) (fun y hy => ?_)
  refine GT_st rfl rfl rfl rfl (V_move rfl rfl) ?_
  refine GT_st rfl rfl rfl rfl (V_extract rfl rfl rfl) ?_
  refine GT_st rfl rfl rfl rfl (V_extract rfl rfl rfl) ?_
  refine GT_st rfl rfl rfl rfl (V_extract rfl rfl rfl) ?_
  refine GT_st rfl rfl rfl rfl (V_assign rfl rfl) ?_
  refine GT_st rfl rfl rfl rfl (V_assign rfl rfl) ?_
  refine GT_st rfl rfl rfl rfl (V_assign rfl rfl) ?_
  refine GT_nil ?_
  refine GE_seq ?_
  refine GE_slots (L' := [(7, _)]) ⟨rfl, trivial⟩ ?_
  refine GE_plain (.st 0 (.st 1 (.st 2 .nil))) rfl ?_
  refine GT_st rfl rfl rfl rfl (V_move rfl rfl) ?_
  refine GT_st rfl rfl rfl rfl (V_eql rfl rfl rfl) ?_
  refine GT_st rfl rfl rfl rfl (V_assign rfl rfl) ?_
  refine GT_nil ?_
  refine GE_ret Tryz.func204 rfl (fun w hw => ?_)
  exact ⟨decide (y.2.2 = 0), by rw [decide_eq_true_eq]; exact hy, rfl, hw.nil⟩
end
end Go.Proofs.YtpbflnfcgcldkaaGreatDoor.Side
