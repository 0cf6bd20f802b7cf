/- All causes of the reference, which rooms are small, ListenDescent and ListenNext: walked. -/
import Derived.Test.YtfaggcmcfhljpaaLie
import Derived.Test.YtfaggcmcfhljpaaLiU
namespace Go.Proofs.Ytfaggcmcfhljpaa
open Go.Sx Go.Proofs

theorem hearE_snoc {p : List Plt} {d : List Dsc} {side : Int} {h : List Hrg} (he : hearE p d side h = 0) {y : Hrg} (hk : known d y.ser = true) (hl : h.length < 200) : hearE p d side (h ++ [y]) = 0 := by
  obtain ⟨h1, h2, h3⟩ := hearE_zero.1 he
  refine hearE_zero.2 ⟨h1, by rw [List.length_append, List.length_singleton]; omega, fun z hz => ?_⟩
  rcases List.mem_append.1 hz with hz | hz
  · exact h3 z hz
  · rw [List.mem_singleton.1 hz]; exact hk
theorem hearE_five {p : List Plt} {d : List Dsc} {side : Int} {h : List Hrg} (hR : Room p d side) (hl : h.length ≤ 200) (he : hearE p d side h ≠ 0) : hearE p d side h = 5 := by
  unfold hearE at he ⊢
  rw [if_pos (beginE_zero.2 hR), if_neg (by omega)] at he ⊢
  split at he
  · exact absurd rfl he
  · rename_i h1; rw [if_neg h1]
theorem nextR_code {d : List Dsc} {l : List Sus} (h : (nextR d l).2.2 ≠ 0) : same l = true := by
  cases hs : same l with
  | true => rfl
  | false => unfold nextR at h; rw [hs] at h; exact absurd rfl h
theorem nextR_same {d : List Dsc} {l : List Sus} (h : same l = true) : nextR d l = (0, 0, 15) := by unfold nextR; rw [if_pos h]
theorem nextR_ok {d : List Dsc} {l : List Sus} (h : same l = false) : nextR d l = ((d.getD (nextTo l d.length).1 default).ser, ((nextTo l d.length).2 : Int), 0) := by unfold nextR; rw [if_neg (by rw [h]; decide)]
theorem nextR_zero {d : List Dsc} {l : List Sus} (h : (nextR d l).2.2 = 0) : same l = false := by
  cases hs : same l with
  | true => rw [nextR_same hs] at h; cases h
  | false => rfl
theorem cau_get {xs : List Sus} {i : Nat} (hi : i < xs.length) : (xs.map Sus.cau).getD i default = (xs.getD i default).cau := by simp [List.getD, hi]
theorem mem_getD {α : Type} [Inhabited α] {l : List α} {i : Nat} (hi : i < l.length) : l.getD i default ∈ l := by simp [List.getD, hi]
def smallB (p : List Plt) (d : List Dsc) (side : Int) : Bool := decide (p.length ≤ 24) && decide (d.length ≤ 16) && decide (dsCheck p d = 0) && (decide (side = 0) || decide (side = 1))
theorem of_small {p : List Plt} {d : List Dsc} {side : Int} (h : smallB p d side = true) : p.length ≤ 24 ∧ d.length ≤ 16 ∧ Room p d side := by
  unfold smallB at h
  simp only [Bool.and_eq_true, Bool.or_eq_true, decide_eq_true_eq] at h
  obtain ⟨⟨⟨h1, h2⟩, h3⟩, h4⟩ := h
  exact ⟨h1, h2, beginE_zero.1 (by unfold beginE; rw [if_pos h3, if_pos h4])⟩
theorem dsc_bd {p : List Plt} {d : List Dsc} (h : DsOk p d) (hp : p.length ≤ 256) {i : Nat} (hi : i < d.length) : (-9223372036854775807 ≤ (d.getD i default).a ∧ (d.getD i default).a ≤ 9223372036854775807) ∧ (-9223372036854775807 ≤ (d.getD i default).b ∧ (d.getD i default).b ≤ 9223372036854775807) := by
  obtain ⟨⟨_, h1⟩, h2⟩ := dsOk_iff.1 (h i hi)
  have h3 := (stamp_iff.1 h1).1
  have h4 := (stamp_iff.1 h2).1
  omega
section
variable {p : List Plt} {d : List Dsc} {h : List Hrg} {A A2 A3 A5 : Option Addr} {c c2 c3 c5 : Nat} {side : Int} {w : World}
theorem C_small (hp : RdL w 7 ePlt A p) (hwf : ∀ x ∈ p, Plt.wf x) (hd : RdL w 7 eDsc A2 d) (hdf : ∀ x ∈ d, Dsc.wf x) :
    Con0 Try.prog 20 [.slice A p.length c, .slice A2 d.length c2, I side] w (.bool (smallB p d side)) := by
  have hfin : ∀ q : Bool, (((p.length ≤ 24 ∧ d.length ≤ 16) ∧ dsCheck p d = 0) ∧ (side = 0 ∨ side = 1) ↔ q = true) → Value.bool q = Value.bool (smallB p d side) := fun q hq => congrArg Value.bool (by rw [Bool.eq_iff_iff, ← hq]; unfold smallB; simp)
  refine Ret_of (vs := [_, _, _]) hm none' Try.func20 rfl Try.ntmps20 rfl ?_
  dsimp only [slotsOf]
  refine GE_seq ?_
  refine GE_plain (.st 0 .nil) rfl ?_
  refine GT_st rfl rfl rfl rfl (V_assign rfl rfl) ?_
  refine GT_nil ?_
  refine GE_seq ?_
  refine GE_plain (.st 0 (.st 1 (.st 2 (.st 3 (.st 4 (.st 5 (.st 6 (.st 7 (.st 8 (.st 9 (.st 10 (.ld 11 [] (.st 12 (.st 13 (.st 14 (.st 15 (.st 16 (.st 17 (.st 18 (.st 19 (.st 20 (.st 21 (.st 22 .nil))))))))))))))))))))))) rfl ?_
  refine GT_st rfl rfl rfl rfl (V_move rfl rfl) ?_
  refine GT_st rfl rfl rfl rfl (V_len rfl Try.underlying36 rfl) ?_
  refine GT_st rfl rfl rfl rfl (V_leq rfl rfl rfl) ?_
  refine GT_st rfl rfl rfl rfl (V_move rfl rfl) ?_
  first | refine GT_splitNot (d := 10) rfl (fun h1 => ?_) (fun h1 => ?_) | refine GT_split (d := 10) rfl (fun h1 => ?_) (fun h1 => ?_) | refine GT_splitNotB (d := 10) rfl (fun h1 => ?_) (fun h1 => ?_) | refine GT_splitB (d := 10) rfl (fun h1 => ?_) (fun h1 => ?_)
  · skip
    refine GT_st_g rfl rfl rfl rfl rfl rfl rfl (V_move rfl rfl) ?_
    refine GT_st_g rfl rfl rfl rfl rfl rfl rfl (V_len rfl Try.underlying37 rfl) ?_
    refine GT_st_g rfl rfl rfl rfl rfl rfl rfl (V_leq rfl rfl rfl) ?_
    refine GT_st rfl rfl rfl rfl (V_pick_t rfl rfl rfl) ?_
    refine GT_st rfl rfl rfl rfl (V_move rfl rfl) ?_
    first | refine GT_splitNot (d := 15) rfl (fun h2 => ?_) (fun h2 => ?_) | refine GT_split (d := 15) rfl (fun h2 => ?_) (fun h2 => ?_) | refine GT_splitNotB (d := 15) rfl (fun h2 => ?_) (fun h2 => ?_) | refine GT_splitB (d := 15) rfl (fun h2 => ?_) (fun h2 => ?_)
    · skip
      refine GT_st_g rfl rfl rfl rfl rfl rfl rfl (V_move rfl rfl) ?_
      refine GT_st_g rfl rfl rfl rfl rfl rfl rfl (V_move rfl rfl) ?_
      refine GT_call0_g rfl rfl rfl rfl rfl rfl rfl rfl rfl rfl rfl rn_45 (fun w hw => C_ref09_CheckDiscs (hp.sh hw) hwf (hd.sh hw) hdf (by omega) (by omega)) (GR_nil) ?_
      refine GT_st_g rfl rfl rfl rfl rfl rfl rfl (V_eql rfl rfl rfl) ?_
      refine GT_st rfl rfl rfl rfl (V_pick_t rfl rfl rfl) ?_
      refine GT_st rfl rfl rfl rfl (V_move rfl rfl) ?_
      first | refine GT_splitNot (d := 21) rfl (fun h1 => ?_) (fun h1 => ?_) | refine GT_split (d := 21) rfl (fun h1 => ?_) (fun h1 => ?_) | refine GT_splitNotB (d := 21) rfl (fun h1 => ?_) (fun h1 => ?_) | refine GT_splitB (d := 21) rfl (fun h1 => ?_) (fun h1 => ?_)
      · skip
        refine GT_st_g rfl rfl rfl rfl rfl rfl rfl (V_move rfl rfl) ?_
        refine GT_st_g rfl rfl rfl rfl rfl rfl rfl (V_eql rfl rfl rfl) ?_
        refine GT_st_g rfl rfl rfl rfl rfl rfl rfl (V_move rfl rfl) ?_
        first | refine GT_splitNot (d := 24) rfl (fun h2 => ?_) (fun h2 => ?_) | refine GT_split (d := 24) rfl (fun h2 => ?_) (fun h2 => ?_) | refine GT_splitNotB (d := 24) rfl (fun h2 => ?_) (fun h2 => ?_) | refine GT_splitB (d := 24) rfl (fun h2 => ?_) (fun h2 => ?_)
        · skip
          refine GT_skip rfl rfl rfl rfl rfl (by decide) rfl rfl ?_
          refine GT_skip rfl rfl rfl rfl rfl (by decide) rfl rfl ?_
          refine GT_st_g rfl rfl rfl rfl rfl rfl rfl (V_pick_t rfl rfl rfl) ?_
          refine GT_st rfl rfl rfl rfl (V_pick_t rfl rfl rfl) ?_
          refine GT_st rfl rfl rfl rfl (V_assign rfl rfl) ?_
          refine GT_nil ?_
          refine GE_ret Try.func20 rfl (fun w hw => ⟨?_, hw.nil⟩)
          refine hfin _ ?_; first | (simp; done) | (simp; omega)
        · skip
          refine GT_st_g rfl rfl rfl rfl rfl rfl rfl (V_move rfl rfl) ?_
          refine GT_st_g rfl rfl rfl rfl rfl rfl rfl (V_eql rfl rfl rfl) ?_
          refine GT_st_g rfl rfl rfl rfl rfl rfl rfl (V_pick_f rfl rfl rfl) ?_
          refine GT_st rfl rfl rfl rfl (V_pick_t rfl rfl rfl) ?_
          refine GT_st rfl rfl rfl rfl (V_assign rfl rfl) ?_
          refine GT_nil ?_
          refine GE_ret Try.func20 rfl (fun w hw => ⟨?_, hw.nil⟩)
          refine hfin _ ?_; first | (simp; done) | (simp; omega)
      · skip
        refine GT_skip rfl rfl rfl rfl rfl (by decide) rfl rfl ?_
        refine GT_skip rfl rfl rfl rfl rfl (by decide) rfl rfl ?_
        refine GT_skip rfl rfl rfl rfl rfl (by decide) rfl rfl ?_
        refine GT_skip rfl rfl rfl rfl rfl (by decide) rfl rfl ?_
        refine GT_skip rfl rfl rfl rfl rfl (by decide) rfl rfl ?_
        refine GT_skip rfl rfl rfl rfl rfl (by decide) rfl rfl ?_
        refine GT_st rfl rfl rfl rfl (V_pick_f rfl rfl rfl) ?_
        refine GT_st rfl rfl rfl rfl (V_assign rfl rfl) ?_
        refine GT_nil ?_
        refine GE_ret Try.func20 rfl (fun w hw => ⟨?_, hw.nil⟩)
        refine hfin _ ?_; first | (simp; done) | (simp; omega)
    · skip
      refine GT_skip rfl rfl rfl rfl rfl (by decide) rfl rfl ?_
      refine GT_skip rfl rfl rfl rfl rfl (by decide) rfl rfl ?_
      refine GT_skip_ld rfl rfl rfl rfl rfl (by decide) rfl rfl rfl (GR_nil) ?_
      refine GT_skip rfl rfl rfl rfl rfl (by decide) rfl rfl ?_
      refine GT_st rfl rfl rfl rfl (V_pick_f rfl rfl rfl) ?_
      refine GT_st rfl rfl rfl rfl (V_move rfl rfl) ?_
      refine GT_skip rfl rfl rfl rfl rfl (by decide) rfl rfl ?_
      refine GT_skip rfl rfl rfl rfl rfl (by decide) rfl rfl ?_
      refine GT_skip rfl rfl rfl rfl rfl (by decide) rfl rfl ?_
      refine GT_skip rfl rfl rfl rfl rfl (by decide) rfl rfl ?_
      refine GT_skip rfl rfl rfl rfl rfl (by decide) rfl rfl ?_
      refine GT_skip rfl rfl rfl rfl rfl (by decide) rfl rfl ?_
      refine GT_st rfl rfl rfl rfl (V_pick_f rfl rfl rfl) ?_
      refine GT_st rfl rfl rfl rfl (V_assign rfl rfl) ?_
      refine GT_nil ?_
      refine GE_ret Try.func20 rfl (fun w hw => ⟨?_, hw.nil⟩)
      refine hfin _ ?_; first | (simp; done) | (simp; omega)
  · skip
    refine GT_skip rfl rfl rfl rfl rfl (by decide) rfl rfl ?_
    refine GT_skip rfl rfl rfl rfl rfl (by decide) rfl rfl ?_
    refine GT_skip rfl rfl rfl rfl rfl (by decide) rfl rfl ?_
    refine GT_st rfl rfl rfl rfl (V_pick_f rfl rfl rfl) ?_
    refine GT_st rfl rfl rfl rfl (V_move rfl rfl) ?_
    refine GT_skip rfl rfl rfl rfl rfl (by decide) rfl rfl ?_
    refine GT_skip rfl rfl rfl rfl rfl (by decide) rfl rfl ?_
    refine GT_skip_ld rfl rfl rfl rfl rfl (by decide) rfl rfl rfl (GR_nil) ?_
    refine GT_skip rfl rfl rfl rfl rfl (by decide) rfl rfl ?_
    refine GT_st rfl rfl rfl rfl (V_pick_f rfl rfl rfl) ?_
    refine GT_st rfl rfl rfl rfl (V_move rfl rfl) ?_
    refine GT_skip rfl rfl rfl rfl rfl (by decide) rfl rfl ?_
    refine GT_skip rfl rfl rfl rfl rfl (by decide) rfl rfl ?_
    refine GT_skip rfl rfl rfl rfl rfl (by decide) rfl rfl ?_
    refine GT_skip rfl rfl rfl rfl rfl (by decide) rfl rfl ?_
    refine GT_skip rfl rfl rfl rfl rfl (by decide) rfl rfl ?_
    refine GT_skip rfl rfl rfl rfl rfl (by decide) rfl rfl ?_
    refine GT_st rfl rfl rfl rfl (V_pick_f rfl rfl rfl) ?_
    refine GT_st rfl rfl rfl rfl (V_assign rfl rfl) ?_
    refine GT_nil ?_
    refine GE_ret Try.func20 rfl (fun w hw => ⟨?_, hw.nil⟩)
    refine hfin _ ?_; first | (simp; done) | (simp; omega)
set_option maxRecDepth 10000 in
theorem C_All (hp : RdL w 7 ePlt A p) (hd : RdL w 7 eDsc A2 d) (hR : Room p d side) :
    Con Try.prog 29 [.slice A p.length c, .slice A2 d.length c2, I side] w (fun y : Option Addr × Nat × Items => Own 2 46 eCau ((causS p d side).map Sus.cau) (.slice y.1 ((causS p d side).map Sus.cau).length y.2.1) y.2.2)
      (fun y => .slice y.1 ((causS p d side).map Sus.cau).length y.2.1) (fun y => y.2.2) := by
  have hpl := hR.pl
  have hdl := hR.dl
  have hla : ∀ {n : Nat} {a : Cau} {l : List Sus}, l.length ≤ n → n ≤ 70000 → ((l.map Sus.cau).length + [a].length) * 16 ≤ 140737488355328 ∧ (l.map Sus.cau).length + [a].length ≤ 140737488355328 := fun h1 h2 => by rw [List.length_map, List.length_singleton]; omega
  refine Ret_of (vs := [_, _, _]) hm none' Try.func29 rfl Try.ntmps29 rfl ?_
  dsimp only [slotsOf]
  refine GE_seq ?_
  refine GE_plain (.st 0 .nil) rfl ?_
  refine GT_st rfl rfl rfl rfl (V_assign rfl rfl) ?_
  refine GT_nil ?_
  refine GE_seq ?_
  refine GE_plain (.st 0 .nil) rfl ?_
  refine GT_st rfl rfl rfl rfl (V_assign rfl rfl) ?_
  refine GT_nil ?_
  refine GE_seq ?_
  refine GE_seq ?_
  refine GE_plain (.st 0 .nil) rfl ?_
  refine GT_st rfl rfl rfl rfl (V_assign rfl rfl) ?_
  refine GT_nil ?_
  refine GE_block ?_
  refine GE_to (GE_loop (ι := Nat × Option Addr × Nat × Items) (fun x => p.length - x.1) (fun x => [(0, .slice A p.length c), (1, .slice A2 d.length c2), (2, I side), (7, .slice x.2.1 ((cTo p d side x.1).map Sus.cau).length x.2.2.1), (8, I x.1)]) (fun x => x.2.2.2) (fun x => x.1 ≤ p.length ∧ Own 2 46 eCau ((cTo p d side x.1).map Sus.cau) (.slice x.2.1 ((cTo p d side x.1).map Sus.cau).length x.2.2.1) x.2.2.2) ?_ (0, none, 0, []) ?_) ⟨rfl, rfl, rfl, rfl, rfl, trivial⟩ HS.nil
  · rintro ⟨i, A', c', I'⟩ ⟨hi, hO⟩ ih; dsimp only at hi hO ih ⊢
    refine GE_seq ?_
    refine GE_seq ?_
    refine GE_plain (.st 0 (.st 1 (.st 2 (.st 3 .nil)))) rfl ?_
    refine GT_st rfl rfl rfl rfl (V_move rfl rfl) ?_
    refine GT_st rfl rfl rfl rfl (V_move rfl rfl) ?_
    refine GT_st rfl rfl rfl rfl (V_len rfl Try.underlying36 rfl) ?_
    refine GT_st rfl rfl rfl rfl (V_lss rfl rfl rfl) ?_
    refine GT_nil ?_
    first | refine GE_condNot rfl (fun h1 => ?_) (fun h1 => ?_) | refine GE_cond rfl (fun h1 => ?_) (fun h1 => ?_) | refine GE_condNotB rfl (fun h1 => ?_) (fun h1 => ?_) | refine GE_condB rfl (fun h1 => ?_) (fun h1 => ?_)
    · have hil : i < p.length := (by omega); have hkd := Room.plate hR.plok hil
      refine GE_skip ?_
      refine GE_seq ?_
      refine GE_block ?_
      refine GE_seq ?_
      refine GE_seq ?_
      refine GE_slots (L' := [(0, _), (1, _), (2, _), (7, _), (8, _)]) ⟨rfl, rfl, rfl, rfl, rfl, trivial⟩ ?_
      refine GE_plain (.st 0 (.st 1 (.st 2 (.st 3 (.st 4 (.st 5 .nil)))))) rfl ?_
      refine GT_st rfl rfl rfl rfl (V_move rfl rfl) ?_
      refine GT_st rfl rfl rfl rfl (V_move rfl rfl) ?_
      refine GT_st rfl rfl rfl rfl (V_index rfl rfl rfl Try.underlying36 sz_53 (k := i) rfl hil (hp.isSome hil)) ?_
      first | refine GT_st rfl rfl rfl rfl (V_field rfl rfl fo_53_0) ?_ | refine GT_st rfl rfl rfl rfl (V_fieldA rfl rfl fo_53_0) ?_
      refine GT_st rfl rfl rfl rfl (V_load rfl rfl ag_3 (hp.at0 noM hil rfl)) ?_
      refine GT_st rfl rfl rfl rfl (V_lss rfl rfl rfl) ?_
      refine GT_nil ?_
      first | refine GE_condNot rfl (fun h2 => ?_) (fun h2 => ?_) | refine GE_cond rfl (fun h2 => ?_) (fun h2 => ?_) | refine GE_condNotB rfl (fun h2 => ?_) (fun h2 => ?_) | refine GE_condB rfl (fun h2 => ?_) (fun h2 => ?_)
      · rw [← cChild_one] at hO ⊢
        refine GE_seq ?_
        refine GE_seq ?_
        refine GE_slots (L' := [(0, _), (1, _), (2, _), (7, _), (8, _)]) ⟨rfl, rfl, rfl, rfl, rfl, trivial⟩ ?_
        refine GE_plain (.st 0 (.st 1 (.st 2 .nil))) rfl ?_
        refine GT_st rfl rfl rfl rfl (V_move rfl rfl) ?_
        refine GT_st rfl rfl rfl rfl (V_add rfl rfl rfl (wrap_i64 (by omega))) ?_
        refine GT_st rfl rfl rfl rfl (V_assign rfl rfl) ?_
        refine GT_nil ?_
        refine GE_block ?_
        refine GE_to (GE_loop (ι := Nat × Option Addr × Nat × Items) (fun x => p.length - x.1) (fun x => [(0, .slice A p.length c), (1, .slice A2 d.length c2), (2, I side), (7, .slice x.2.1 ((cChild p d side i x.1).map Sus.cau).length x.2.2.1), (8, I i), (9, I x.1)]) (fun x => x.2.2.2) (fun x => i + 1 ≤ x.1 ∧ x.1 ≤ p.length ∧ Own 2 46 eCau ((cChild p d side i x.1).map Sus.cau) (.slice x.2.1 ((cChild p d side i x.1).map Sus.cau).length x.2.2.1) x.2.2.2) ?_ (i + 1, A', c', I') ?_) ⟨rfl, rfl, rfl, rfl, rfl, rfl, trivial⟩ HS.last
        · rintro ⟨k, A1, c1, I1⟩ ⟨hik, hk, hO1⟩ ih2; dsimp only at hik hk hO1 ih2 ⊢
          refine GE_seq ?_
          refine GE_seq ?_
          refine GE_plain (.st 0 (.st 1 (.st 2 (.st 3 .nil)))) rfl ?_
          refine GT_st rfl rfl rfl rfl (V_move rfl rfl) ?_
          refine GT_st rfl rfl rfl rfl (V_move rfl rfl) ?_
          refine GT_st rfl rfl rfl rfl (V_len rfl Try.underlying36 rfl) ?_
          refine GT_st rfl rfl rfl rfl (V_lss rfl rfl rfl) ?_
          refine GT_nil ?_
          first | refine GE_condNot rfl (fun h3 => ?_) (fun h3 => ?_) | refine GE_cond rfl (fun h3 => ?_) (fun h3 => ?_) | refine GE_condNotB rfl (fun h3 => ?_) (fun h3 => ?_) | refine GE_condB rfl (fun h3 => ?_) (fun h3 => ?_)
          · have hkl : k < p.length := (by omega)
            refine GE_skip ?_
            refine GE_seq ?_
            refine GE_block ?_
            refine GE_seq ?_
            refine GE_slots (L' := [(0, _), (1, _), (2, _), (7, _), (8, _), (9, _)]) ⟨rfl, rfl, rfl, rfl, rfl, rfl, trivial⟩ ?_
            refine GE_plain (.st 0 (.st 1 (.st 2 (.st 3 (.st 4 (.st 5 (.st 6 .nil))))))) rfl ?_
            refine GT_st rfl rfl rfl rfl (V_move rfl rfl) ?_
            refine GT_st rfl rfl rfl rfl (V_move rfl rfl) ?_
            refine GT_st rfl rfl rfl rfl (V_index rfl rfl rfl Try.underlying36 sz_53 (k := k) rfl hkl (hp.isSome hkl)) ?_
            first | refine GT_st rfl rfl rfl rfl (V_field rfl rfl fo_53_1) ?_ | refine GT_st rfl rfl rfl rfl (V_fieldA rfl rfl fo_53_1) ?_
            refine GT_st rfl rfl rfl rfl (V_load rfl rfl ag_3 (hp.at1 noM hkl rfl)) ?_
            refine GT_st rfl rfl rfl rfl (V_move rfl rfl) ?_
            refine GT_st rfl rfl rfl rfl (V_eql rfl rfl rfl) ?_
            refine GT_nil ?_
            first | refine GE_condNot rfl (fun h4 => ?_) (fun h4 => ?_) | refine GE_cond rfl (fun h4 => ?_) (fun h4 => ?_) | refine GE_condNotB rfl (fun h4 => ?_) (fun h4 => ?_) | refine GE_condB rfl (fun h4 => ?_) (fun h4 => ?_)
            · have e1 : (cChild p d side i k).map Sus.cau ++ [⟨i, k⟩] = (cChild p d side i (k + 1)).map Sus.cau := (by rw [cChild_succ, List.map_append]; unfold child1; rw [if_pos ⟨by omega, h4⟩]; rfl)
              refine GE_slots (L' := [(0, _), (1, _), (2, _), (7, _), (8, _), (9, _)]) ⟨rfl, rfl, rfl, rfl, rfl, rfl, trivial⟩ ?_
              refine GE_plain (.st 0 (.st 1 (.st 2 (.st 3 (.ld 4 [] (.ld 5 [] (.ld 6 [] .nil))))))) rfl ?_
              refine GT_st rfl rfl rfl rfl (V_move rfl rfl) ?_
              refine GT_st rfl rfl rfl rfl (V_move rfl rfl) ?_
              refine GT_st rfl rfl rfl rfl (V_move rfl rfl) ?_
              refine GT_st rfl rfl rfl rfl (V_build (vs := [_, _]) rfl rfl zc_46 pl_46 sa_46 rfl) ?_
              refine GT_buildSlice (z := [_, _]) rfl rfl rfl rfl rfl Try.underlying39 zc_46 sz_46 (by decide) rfl rfl (fun _ => GR_nil) (fun b43 => ?_)
              refine GT_append (enc := eCau) (m := [⟨i, k⟩]) rfl rfl rfl rfl rfl rfl rfl hO1 (fun w m => RdL.own' m eCau_len) Try.underlying39 zc_46 sz_46 ⟨rfl, by decide⟩ by_46 (hla (cChild_len hdl hpl hil hkl) (by decide)) eCau_len eCau_one (fun _ _ _ _ => GR_nil) (fun A2' c2' I2' hO2 => ?_)
              refine GT_ldv rfl rfl rfl rfl rfl (V_assign rfl rfl) (GR_nil) ?_
              refine GT_nil ?_
              refine GE_inBlock ?_
              refine GE_slots (L' := [(0, _), (1, _), (2, _), (7, _), (8, _), (9, _)]) ⟨rfl, rfl, rfl, rfl, rfl, rfl, trivial⟩ ?_
              refine GE_plain (.st 0 (.st 1 (.ld 2 [] .nil))) rfl ?_
              refine GT_st rfl rfl rfl rfl (V_move rfl rfl) ?_
              refine GT_st rfl rfl rfl rfl (V_add rfl rfl rfl (wrap_i64 (by omega))) ?_
              refine GT_ldv rfl rfl rfl rfl rfl (V_assign rfl rfl) (GR_nil) ?_
              refine GT_nil ?_
              first
                | (rw [e1] at hO2 ⊢; exact GE_to (ih2 (k + 1, A2', c2', I2') ⟨by dsimp only; omega, by dsimp only; omega, hO2⟩ (by dsimp only; omega)) ⟨rfl, rfl, rfl, rfl, rfl, rfl, trivial⟩ HS.last)
                | (have hO2 := hO1; rw [← e1] at hO2 ⊢; exact GE_to (ih2 (k + 1, A1, c1, I1) ⟨by dsimp only; omega, by dsimp only; omega, hO2⟩ (by dsimp only; omega)) ⟨rfl, rfl, rfl, rfl, rfl, rfl, trivial⟩ HS.last)
            · have e1 : (cChild p d side i (k + 1)).map Sus.cau = (cChild p d side i k).map Sus.cau := (by rw [cChild_succ, List.map_append]; unfold child1; rw [if_neg (fun q => h4 q.2)]; simp)
              refine GE_skip ?_
              refine GE_inBlock ?_
              refine GE_slots (L' := [(0, _), (1, _), (2, _), (7, _), (8, _), (9, _)]) ⟨rfl, rfl, rfl, rfl, rfl, rfl, trivial⟩ ?_
              refine GE_plain (.st 0 (.st 1 (.ld 2 [] .nil))) rfl ?_
              refine GT_st rfl rfl rfl rfl (V_move rfl rfl) ?_
              refine GT_st rfl rfl rfl rfl (V_add rfl rfl rfl (wrap_i64 (by omega))) ?_
              refine GT_ldv rfl rfl rfl rfl rfl (V_assign rfl rfl) (GR_nil) ?_
              refine GT_nil ?_
              first
                | (rw [e1] at hO2 ⊢; exact GE_to (ih2 (k + 1, A2', c2', I2') ⟨by dsimp only; omega, by dsimp only; omega, hO2⟩ (by dsimp only; omega)) ⟨rfl, rfl, rfl, rfl, rfl, rfl, trivial⟩ HS.last)
                | (have hO2 := hO1; rw [← e1] at hO2 ⊢; exact GE_to (ih2 (k + 1, A1, c1, I1) ⟨by dsimp only; omega, by dsimp only; omega, hO2⟩ (by dsimp only; omega)) ⟨rfl, rfl, rfl, rfl, rfl, rfl, trivial⟩ HS.last)
          · obtain rfl : k = p.length := (by omega)
            refine GE_exit rfl ?_
            refine GE_exit rfl ?_
            refine GE_slots (L' := [(0, _), (1, _), (2, _), (7, _), (8, _)]) ⟨rfl, rfl, rfl, rfl, rfl, trivial⟩ ?_
            refine GE_plain (.st 0 (.st 1 (.ld 2 [] .nil))) rfl ?_
            refine GT_st rfl rfl rfl rfl (V_move rfl rfl) ?_
            refine GT_st rfl rfl rfl rfl (V_add rfl rfl rfl (wrap_i64 (by omega))) ?_
            refine GT_ldv rfl rfl rfl rfl rfl (V_assign rfl rfl) (GR_nil) ?_
            refine GT_nil ?_
            first
              | (rw [cChild_end (by omega)] at hO1 ⊢; exact GE_to (ih (i + 1, A1, c1, I1) ⟨by dsimp only; omega, hO1⟩ (by dsimp only; omega)) ⟨rfl, rfl, rfl, rfl, rfl, trivial⟩ HS.last)
              | (rw [cStamp_end (by omega)] at hO1 ⊢; exact GE_to (ih (i + 1, A1, c1, I1) ⟨by dsimp only; omega, hO1⟩ (by dsimp only; omega)) ⟨rfl, rfl, rfl, rfl, rfl, trivial⟩ HS.last)
        · exact ⟨Nat.le_refl _, by dsimp only; omega, hO⟩
      · rw [← cStamp_zero] at hO ⊢
        refine GE_skip ?_
        refine GE_seq ?_
        refine GE_slots (L' := [(0, _), (1, _), (2, _), (7, _), (8, _)]) ⟨rfl, rfl, rfl, rfl, rfl, trivial⟩ ?_
        refine GE_plain (.st 0 .nil) rfl ?_
        refine GT_st rfl rfl rfl rfl (V_assign rfl rfl) ?_
        refine GT_nil ?_
        refine GE_block ?_
        refine GE_to (GE_loop (ι := Nat × Option Addr × Nat × Items) (fun x => d.length - x.1) (fun x => [(0, .slice A p.length c), (1, .slice A2 d.length c2), (2, I side), (7, .slice x.2.1 ((cStamp p d side i x.1).map Sus.cau).length x.2.2.1), (8, I i), (10, I x.1)]) (fun x => x.2.2.2) (fun x => x.1 ≤ d.length ∧ Own 2 46 eCau ((cStamp p d side i x.1).map Sus.cau) (.slice x.2.1 ((cStamp p d side i x.1).map Sus.cau).length x.2.2.1) x.2.2.2) ?_ (0, A', c', I') ?_) ⟨rfl, rfl, rfl, rfl, rfl, rfl, trivial⟩ HS.last
        · rintro ⟨k, A1, c1, I1⟩ ⟨hk, hO1⟩ ih2; dsimp only at hk hO1 ih2 ⊢
          refine GE_seq ?_
          refine GE_seq ?_
          refine GE_plain (.st 0 (.st 1 (.st 2 (.st 3 .nil)))) rfl ?_
          refine GT_st rfl rfl rfl rfl (V_move rfl rfl) ?_
          refine GT_st rfl rfl rfl rfl (V_move rfl rfl) ?_
          refine GT_st rfl rfl rfl rfl (V_len rfl Try.underlying37 rfl) ?_
          refine GT_st rfl rfl rfl rfl (V_lss rfl rfl rfl) ?_
          refine GT_nil ?_
          first | refine GE_condNot rfl (fun h3 => ?_) (fun h3 => ?_) | refine GE_cond rfl (fun h3 => ?_) (fun h3 => ?_) | refine GE_condNotB rfl (fun h3 => ?_) (fun h3 => ?_) | refine GE_condB rfl (fun h3 => ?_) (fun h3 => ?_)
          · have hkl : k < d.length := (by omega); obtain ⟨hb1, hb2⟩ := dsc_bd hR.dsok hpl hkl; have how := own_iff hR (show (p.getD i default).kind = 3 by omega) hil hkl
            refine GE_skip ?_
            refine GE_seq ?_
            refine GE_block ?_
            refine GE_seq ?_
            refine GE_slots (L' := [(0, _), (1, _), (2, _), (7, _), (8, _), (10, _)]) ⟨rfl, rfl, rfl, rfl, rfl, rfl, trivial⟩ ?_
            refine GE_plain (.st 0 (.st 1 (.st 2 (.st 3 (.st 4 (.ld 5 [] (.st 6 (.st 7 .nil)))))))) rfl ?_
            refine GT_st rfl rfl rfl rfl (V_move rfl rfl) ?_
            refine GT_st rfl rfl rfl rfl (V_move rfl rfl) ?_
            refine GT_st rfl rfl rfl rfl (V_index rfl rfl rfl Try.underlying37 sz_50 (k := k) rfl hkl (hd.isSome hkl)) ?_
            refine GT_st rfl rfl rfl rfl (V_loadN (vs := [_, _, _, _, _, _, _]) rfl rfl ag_50 sz_50 rfl (hd.ats noM hkl)) ?_
            refine GT_st rfl rfl rfl rfl (V_move rfl rfl) ?_
            refine GT_call0 rfl rfl rfl rfl rfl rfl rfl rfl rn_25 (fun w hw => C_Of (x := d.getD k default) hb1 hb2) (GR_nil) ?_
            refine GT_st rfl rfl rfl rfl (V_move rfl rfl) ?_
            refine GT_st rfl rfl rfl rfl (V_eql rfl rfl rfl) ?_
            refine GT_nil ?_
            first | refine GE_condNot rfl (fun h4 => ?_) (fun h4 => ?_) | refine GE_cond rfl (fun h4 => ?_) (fun h4 => ?_) | refine GE_condNotB rfl (fun h4 => ?_) (fun h4 => ?_) | refine GE_condB rfl (fun h4 => ?_) (fun h4 => ?_)
            · have e1 : (cStamp p d side i k).map Sus.cau ++ [⟨i, (d.getD k default).ser⟩] = (cStamp p d side i (k + 1)).map Sus.cau := (by rw [cStamp_succ, List.map_append, stamp1_yes (how.2 h4)]; rfl)
              refine GE_slots (L' := [(0, _), (1, _), (2, _), (7, _), (8, _), (10, _)]) ⟨rfl, rfl, rfl, rfl, rfl, rfl, trivial⟩ ?_
              refine GE_plain (.st 0 (.st 1 (.st 2 (.st 3 (.st 4 (.st 5 (.st 6 (.st 7 (.ld 8 [] (.ld 9 [] (.ld 10 [] .nil))))))))))) rfl ?_
              refine GT_st rfl rfl rfl rfl (V_move rfl rfl) ?_
              refine GT_st rfl rfl rfl rfl (V_move rfl rfl) ?_
              refine GT_st rfl rfl rfl rfl (V_move rfl rfl) ?_
              refine GT_st rfl rfl rfl rfl (V_move rfl rfl) ?_
              refine GT_st rfl rfl rfl rfl (V_index rfl rfl rfl Try.underlying37 sz_50 (k := k) rfl hkl (hd.isSome hkl)) ?_
              first | refine GT_st rfl rfl rfl rfl (V_field rfl rfl fo_50_0) ?_ | refine GT_st rfl rfl rfl rfl (V_fieldA rfl rfl fo_50_0) ?_
              refine GT_st rfl rfl rfl rfl (V_load rfl rfl ag_2 (hd.at0 noM hkl rfl)) ?_
              refine GT_st rfl rfl rfl rfl (V_build (vs := [_, _]) rfl rfl zc_46 pl_46 sa_46 rfl) ?_
              refine GT_buildSlice (z := [_, _]) rfl rfl rfl rfl rfl Try.underlying39 zc_46 sz_46 (by decide) rfl rfl (fun _ => GR_nil) (fun b67 => ?_)
              refine GT_append (enc := eCau) (m := [⟨i, (d.getD k default).ser⟩]) rfl rfl rfl rfl rfl rfl rfl hO1 (fun w m => RdL.own' m eCau_len) Try.underlying39 zc_46 sz_46 ⟨rfl, by decide⟩ by_46 (hla (cStamp_len hdl hpl hil hkl) (by decide)) eCau_len eCau_one (fun _ _ _ _ => GR_nil) (fun A2' c2' I2' hO2 => ?_)
              refine GT_ldv rfl rfl rfl rfl rfl (V_assign rfl rfl) (GR_nil) ?_
              refine GT_nil ?_
              refine GE_inBlock ?_
              refine GE_slots (L' := [(0, _), (1, _), (2, _), (7, _), (8, _), (10, _)]) ⟨rfl, rfl, rfl, rfl, rfl, rfl, trivial⟩ ?_
              refine GE_plain (.st 0 (.st 1 (.ld 2 [] .nil))) rfl ?_
              refine GT_st rfl rfl rfl rfl (V_move rfl rfl) ?_
              refine GT_st rfl rfl rfl rfl (V_add rfl rfl rfl (wrap_i64 (by omega))) ?_
              refine GT_ldv rfl rfl rfl rfl rfl (V_assign rfl rfl) (GR_nil) ?_
              refine GT_nil ?_
              first
                | (rw [e1] at hO2 ⊢; exact GE_to (ih2 (k + 1, A2', c2', I2') ⟨by dsimp only; omega, hO2⟩ (by dsimp only; omega)) ⟨rfl, rfl, rfl, rfl, rfl, rfl, trivial⟩ HS.last)
                | (have hO2 := hO1; rw [← e1] at hO2 ⊢; exact GE_to (ih2 (k + 1, A1, c1, I1) ⟨by dsimp only; omega, hO2⟩ (by dsimp only; omega)) ⟨rfl, rfl, rfl, rfl, rfl, rfl, trivial⟩ HS.last)
            · have e1 : (cStamp p d side i (k + 1)).map Sus.cau = (cStamp p d side i k).map Sus.cau := (by rw [cStamp_succ, List.map_append, stamp1_no (by rw [← Bool.not_eq_true]; exact fun q => h4 (how.1 q))]; simp)
              refine GE_skip ?_
              refine GE_inBlock ?_
              refine GE_slots (L' := [(0, _), (1, _), (2, _), (7, _), (8, _), (10, _)]) ⟨rfl, rfl, rfl, rfl, rfl, rfl, trivial⟩ ?_
              refine GE_plain (.st 0 (.st 1 (.ld 2 [] .nil))) rfl ?_
              refine GT_st rfl rfl rfl rfl (V_move rfl rfl) ?_
              refine GT_st rfl rfl rfl rfl (V_add rfl rfl rfl (wrap_i64 (by omega))) ?_
              refine GT_ldv rfl rfl rfl rfl rfl (V_assign rfl rfl) (GR_nil) ?_
              refine GT_nil ?_
              first
                | (rw [e1] at hO2 ⊢; exact GE_to (ih2 (k + 1, A2', c2', I2') ⟨by dsimp only; omega, hO2⟩ (by dsimp only; omega)) ⟨rfl, rfl, rfl, rfl, rfl, rfl, trivial⟩ HS.last)
                | (have hO2 := hO1; rw [← e1] at hO2 ⊢; exact GE_to (ih2 (k + 1, A1, c1, I1) ⟨by dsimp only; omega, hO2⟩ (by dsimp only; omega)) ⟨rfl, rfl, rfl, rfl, rfl, rfl, trivial⟩ HS.last)
          · obtain rfl : k = d.length := (by omega)
            refine GE_exit rfl ?_
            refine GE_inBlock ?_
            refine GE_slots (L' := [(0, _), (1, _), (2, _), (7, _), (8, _)]) ⟨rfl, rfl, rfl, rfl, rfl, trivial⟩ ?_
            refine GE_plain (.st 0 (.st 1 (.ld 2 [] .nil))) rfl ?_
            refine GT_st rfl rfl rfl rfl (V_move rfl rfl) ?_
            refine GT_st rfl rfl rfl rfl (V_add rfl rfl rfl (wrap_i64 (by omega))) ?_
            refine GT_ldv rfl rfl rfl rfl rfl (V_assign rfl rfl) (GR_nil) ?_
            refine GT_nil ?_
            first
              | (rw [cChild_end (by omega)] at hO1 ⊢; exact GE_to (ih (i + 1, A1, c1, I1) ⟨by dsimp only; omega, hO1⟩ (by dsimp only; omega)) ⟨rfl, rfl, rfl, rfl, rfl, trivial⟩ HS.last)
              | (rw [cStamp_end (by omega)] at hO1 ⊢; exact GE_to (ih (i + 1, A1, c1, I1) ⟨by dsimp only; omega, hO1⟩ (by dsimp only; omega)) ⟨rfl, rfl, rfl, rfl, rfl, trivial⟩ HS.last)
        · exact ⟨Nat.zero_le _, hO⟩
    · obtain rfl : i = p.length := (by omega)
      refine GE_exit rfl ?_
      refine GE_seq ?_
      refine GE_seq ?_
      refine GE_slots (L' := [(1, _), (7, _)]) ⟨rfl, rfl, trivial⟩ ?_
      rw [← cAlone_zero] at hO ⊢
      refine GE_plain (.st 0 .nil) rfl ?_
      refine GT_st rfl rfl rfl rfl (V_assign rfl rfl) ?_
      refine GT_nil ?_
      refine GE_block ?_
      refine GE_to (GE_loop (ι := Nat × Option Addr × Nat × Items) (fun x => d.length - x.1) (fun x => [(1, .slice A2 d.length c2), (7, .slice x.2.1 ((cAlone p d side x.1).map Sus.cau).length x.2.2.1), (11, I x.1)]) (fun x => x.2.2.2) (fun x => x.1 ≤ d.length ∧ Own 2 46 eCau ((cAlone p d side x.1).map Sus.cau) (.slice x.2.1 ((cAlone p d side x.1).map Sus.cau).length x.2.2.1) x.2.2.2) ?_ (0, A', c', I') ?_) ⟨rfl, rfl, rfl, trivial⟩ HS.last
      · rintro ⟨k, A1, c1, I1⟩ ⟨hk, hO1⟩ ih2; dsimp only at hk hO1 ih2 ⊢
        refine GE_seq ?_
        refine GE_seq ?_
        refine GE_plain (.st 0 (.st 1 (.st 2 (.st 3 .nil)))) rfl ?_
        refine GT_st rfl rfl rfl rfl (V_move rfl rfl) ?_
        refine GT_st rfl rfl rfl rfl (V_move rfl rfl) ?_
        refine GT_st rfl rfl rfl rfl (V_len rfl Try.underlying37 rfl) ?_
        refine GT_st rfl rfl rfl rfl (V_lss rfl rfl rfl) ?_
        refine GT_nil ?_
        first | refine GE_condNot rfl (fun h3 => ?_) (fun h3 => ?_) | refine GE_cond rfl (fun h3 => ?_) (fun h3 => ?_) | refine GE_condNotB rfl (fun h3 => ?_) (fun h3 => ?_) | refine GE_condB rfl (fun h3 => ?_) (fun h3 => ?_)
        · have hkl : k < d.length := (by omega); have e1 : (cAlone p d side k).map Sus.cau ++ [⟨-1, (d.getD k default).ser⟩] = (cAlone p d side (k + 1)).map Sus.cau := (by rw [cAlone_succ, List.map_append]; rfl)
          refine GE_skip ?_
          refine GE_seq ?_
          refine GE_block ?_
          refine GE_slots (L' := [(1, _), (7, _), (11, _)]) ⟨rfl, rfl, rfl, trivial⟩ ?_
          refine GE_plain (.st 0 (.st 1 (.st 2 (.st 3 (.st 4 (.st 5 (.st 6 (.ld 7 [] (.ld 8 [] (.ld 9 [] .nil)))))))))) rfl ?_
          refine GT_st rfl rfl rfl rfl (V_move rfl rfl) ?_
          refine GT_st rfl rfl rfl rfl (V_move rfl rfl) ?_
          refine GT_st rfl rfl rfl rfl (V_move rfl rfl) ?_
          refine GT_st rfl rfl rfl rfl (V_index rfl rfl rfl Try.underlying37 sz_50 (k := k) rfl hkl (hd.isSome hkl)) ?_
          first | refine GT_st rfl rfl rfl rfl (V_field rfl rfl fo_50_0) ?_ | refine GT_st rfl rfl rfl rfl (V_fieldA rfl rfl fo_50_0) ?_
          refine GT_st rfl rfl rfl rfl (V_load rfl rfl ag_2 (hd.at0 noM hkl rfl)) ?_
          refine GT_st rfl rfl rfl rfl (V_build (vs := [_, _]) rfl rfl zc_46 pl_46 sa_46 rfl) ?_
          refine GT_buildSlice (z := [_, _]) rfl rfl rfl rfl rfl Try.underlying39 zc_46 sz_46 (by decide) rfl rfl (fun _ => GR_nil) (fun b82 => ?_)
          refine GT_append (enc := eCau) (m := [⟨-1, (d.getD k default).ser⟩]) rfl rfl rfl rfl rfl rfl rfl hO1 (fun w m => RdL.own' m eCau_len) Try.underlying39 zc_46 sz_46 ⟨rfl, by decide⟩ by_46 (hla (cAlone_len hdl hpl hkl) (by decide)) eCau_len eCau_one (fun _ _ _ _ => GR_nil) (fun A2' c2' I2' hO2 => ?_)
          refine GT_ldv rfl rfl rfl rfl rfl (V_assign rfl rfl) (GR_nil) ?_
          refine GT_nil ?_
          refine GE_inBlock ?_
          refine GE_slots (L' := [(1, _), (7, _), (11, _)]) ⟨rfl, rfl, rfl, trivial⟩ ?_
          refine GE_plain (.st 0 (.st 1 (.ld 2 [] .nil))) rfl ?_
          refine GT_st rfl rfl rfl rfl (V_move rfl rfl) ?_
          refine GT_st rfl rfl rfl rfl (V_add rfl rfl rfl (wrap_i64 (by omega))) ?_
          refine GT_ldv rfl rfl rfl rfl rfl (V_assign rfl rfl) (GR_nil) ?_
          refine GT_nil ?_
          rw [e1] at hO2 ⊢; exact GE_to (ih2 (k + 1, A2', c2', I2') ⟨by dsimp only; omega, hO2⟩ (by dsimp only; omega)) ⟨rfl, rfl, rfl, trivial⟩ HS.last
        · obtain rfl : k = d.length := (by omega); rw [cAlone_end] at hO1 ⊢
          refine GE_exit rfl ?_
          refine GE_seq ?_
          refine GE_slots (L' := [(7, _)]) ⟨rfl, trivial⟩ ?_
          refine GE_plain (.st 0 (.st 1 .nil)) rfl ?_
          refine GT_st rfl rfl rfl rfl (V_move rfl rfl) ?_
          refine GT_st rfl rfl rfl rfl (V_assign rfl rfl) ?_
          refine GT_nil ?_
          refine GE_ret Try.func29 rfl (fun w hw => ⟨(A1, c1, I1), hO1, rfl, hw⟩)
          skip
      · exact ⟨Nat.zero_le _, hO⟩
  · exact ⟨Nat.zero_le _, Own.nil⟩
theorem eHrg_app : eHrg = eHrg := rfl
set_option maxRecDepth 10000 in
theorem C_worst {ser : Int} {i : Nat} (hp : RdL w 7 ePlt A p) (hwf : ∀ x ∈ p, Plt.wf x) (hd : RdL w 7 eDsc A2 d) (hdf : ∀ x ∈ d, Dsc.wf x) (hh : RdL w 2 eHrg A5 h) (he : hearE p d side h = 0) (hl : h.length ≤ 100) (hi : i < d.length) (hs : (d.getD i default).ser = ser) :
    Con0 Try.prog 28 [.slice A p.length c, .slice A2 d.length c2, I side, .slice A5 h.length c5, I ser] w (I (max (mny (leftS p d side h) i) ((leftS p d side h).length - mny (leftS p d side h) i) : Nat)) := by
  subst hs
  have hR := (hearE_zero.1 he).1
  have hkn : known d (d.getD i default).ser = true := known_iff.2 ⟨i, hi, rfl⟩
  have e1 := hearE_snoc (y := ⟨(d.getD i default).ser, true⟩) he hkn (by omega)
  have e2 := hearE_snoc (y := ⟨(d.getD i default).ser, false⟩) he hkn (by omega)
  have l1 : (causL p d side (h ++ [⟨(d.getD i default).ser, true⟩])).length = mny (leftS p d side h) i := by unfold causL; rw [if_pos e1, List.length_map, left_yes hR.dsok hi]
  have l2 : (causL p d side (h ++ [⟨(d.getD i default).ser, false⟩])).length = (leftS p d side h).length - mny (leftS p d side h) i := by unfold causL; rw [if_pos e2, List.length_map, left_no hR.dsok hi]
  refine Ret_of (vs := [_, _, _, _, _]) hm none' Try.func28 rfl Try.ntmps28 rfl ?_
  dsimp only [slotsOf]
  refine GE_seq ?_
  refine GE_plain (.st 0 .nil) rfl ?_
  refine GT_st rfl rfl rfl rfl (V_assign rfl rfl) ?_
  refine GT_nil ?_
  refine GE_seq ?_
  refine GE_plain (.st 0 (.st 1 (.st 2 (.ld 3 [] (.st 4 (.ld 5 [] (.st 6 (.st 7 (.ld 8 [] (.ld 9 [] (.ld 10 [] (.st 11 (.st 12 (.st 13 (.st 14 (.st 15 .nil)))))))))))))))) rfl ?_
  refine GT_st rfl rfl rfl rfl (V_move rfl rfl) ?_
  refine GT_st rfl rfl rfl rfl (V_move rfl rfl) ?_
  refine GT_st rfl rfl rfl rfl (V_move rfl rfl) ?_
  refine GT_buildSlice (z := []) rfl rfl rfl rfl rfl Try.underlying54 zc_61 sz_61 (by decide) rfl rfl (fun _ => GR_nil) (fun b19 => ?_)
  refine GT_st rfl rfl rfl rfl (V_move rfl rfl) ?_
  refine GT_append (enc := eHrg) (l := []) (m := h) rfl rfl rfl rfl rfl rfl rfl (show Own 2 61 eHrg [] (.slice (some ⟨b19, 0, none⟩) 0 0) [(b19, blk [] 61)] from Own.lit rfl rfl (by decide)) (fun w m => hh.sh m) Try.underlying54 zc_61 sz_61 ⟨rfl, by decide⟩ by_61 ⟨by simp only [List.length_nil]; omega, by simp only [List.length_nil]; omega⟩ eHrg_len eHrg_one (fun _ _ _ _ => GR_nil) (fun A7 c7 I7 hO7 => ?_)
  refine GT_st rfl rfl rfl rfl (V_move rfl rfl) ?_
  refine GT_st rfl rfl rfl rfl (V_build (vs := [_, _]) rfl rfl zc_61 pl_61 sa_61 rfl) ?_
  refine GT_buildSlice (z := [_, _]) rfl rfl rfl rfl rfl Try.underlying54 zc_61 sz_61 (by decide) rfl rfl (fun _ => GR_nil) (fun b24 => ?_)
  refine GT_append (enc := eHrg) (l := h) (m := [⟨(d.getD i default).ser, true⟩]) rfl rfl rfl rfl rfl rfl rfl hO7 (fun w m => RdL.own' m eHrg_len) Try.underlying54 zc_61 sz_61 ⟨rfl, by decide⟩ by_61 ⟨by simp only [List.length_singleton]; omega, by simp only [List.length_singleton]; omega⟩ eHrg_len eHrg_one (fun _ _ _ _ => GR_nil) (fun A8 c8 I8 hO8 => ?_)
  refine GT_call rfl rfl rfl rfl rfl rfl rfl rfl rn_21 (fun w hw => C_Causes (hp.sh hw) hwf (hd.sh hw) hdf (hO8.rdH eHrg_len hw)) (fun _ _ => GR_nil) (fun y hy => ?_)
  rw [l1, e1]
  refine GT_st rfl rfl rfl rfl (V_move rfl rfl) ?_
  refine GT_st rfl rfl rfl rfl (V_extract rfl rfl rfl) ?_
  refine GT_st rfl rfl rfl rfl (V_extract rfl rfl rfl) ?_
  refine GT_st rfl rfl rfl rfl (V_assign rfl rfl) ?_
  refine GT_st rfl rfl rfl rfl (V_assign rfl rfl) ?_
  refine GT_nil ?_
  refine GE_seq ?_
  refine GE_slots (L' := [(0, _), (1, _), (2, _), (3, _), (4, _), (11, _), (12, _)]) ⟨rfl, rfl, rfl, rfl, rfl, rfl, rfl, trivial⟩ ?_
  refine GE_plain (.st 0 (.st 1 (.st 2 (.ld 3 [] (.st 4 (.ld 5 [] (.st 6 (.st 7 (.ld 8 [] (.ld 9 [] (.ld 10 [] (.st 11 (.st 12 (.st 13 (.st 14 (.st 15 .nil)))))))))))))))) rfl ?_
  refine GT_st rfl rfl rfl rfl (V_move rfl rfl) ?_
  refine GT_st rfl rfl rfl rfl (V_move rfl rfl) ?_
  refine GT_st rfl rfl rfl rfl (V_move rfl rfl) ?_
  refine GT_buildSlice (z := []) rfl rfl rfl rfl rfl Try.underlying54 zc_61 sz_61 (by decide) rfl rfl (fun _ => GR_nil) (fun b33 => ?_)
  refine GT_st rfl rfl rfl rfl (V_move rfl rfl) ?_
  refine GT_append (enc := eHrg) (l := []) (m := h) rfl rfl rfl rfl rfl rfl rfl (show Own 2 61 eHrg [] (.slice (some ⟨b33, 0, none⟩) 0 0) [(b33, blk [] 61)] from Own.lit rfl rfl (by decide)) (fun w m => hh.sh m) Try.underlying54 zc_61 sz_61 ⟨rfl, by decide⟩ by_61 ⟨by simp only [List.length_nil]; omega, by simp only [List.length_nil]; omega⟩ eHrg_len eHrg_one (fun _ _ _ _ => GR_nil) (fun A9 c9 I9 hO9 => ?_)
  refine GT_st rfl rfl rfl rfl (V_move rfl rfl) ?_
  refine GT_st rfl rfl rfl rfl (V_build (vs := [_, _]) rfl rfl zc_61 pl_61 sa_61 rfl) ?_
  refine GT_buildSlice (z := [_, _]) rfl rfl rfl rfl rfl Try.underlying54 zc_61 sz_61 (by decide) rfl rfl (fun _ => GR_nil) (fun b38 => ?_)
  refine GT_append (enc := eHrg) (l := h) (m := [⟨(d.getD i default).ser, false⟩]) rfl rfl rfl rfl rfl rfl rfl hO9 (fun w m => RdL.own' m eHrg_len) Try.underlying54 zc_61 sz_61 ⟨rfl, by decide⟩ by_61 ⟨by simp only [List.length_singleton]; omega, by simp only [List.length_singleton]; omega⟩ eHrg_len eHrg_one (fun _ _ _ _ => GR_nil) (fun Aa ca Ia hOa => ?_)
  refine GT_call rfl rfl rfl rfl rfl rfl rfl rfl rn_21 (fun w hw => C_Causes (hp.sh hw) hwf (hd.sh hw) hdf (hOa.rdH eHrg_len hw)) (fun _ _ => GR_nil) (fun z hz => ?_)
  rw [l2, e2]
  refine GT_st rfl rfl rfl rfl (V_move rfl rfl) ?_
  refine GT_st rfl rfl rfl rfl (V_extract rfl rfl rfl) ?_
  refine GT_st rfl rfl rfl rfl (V_extract rfl rfl rfl) ?_
  refine GT_st rfl rfl rfl rfl (V_assign rfl rfl) ?_
  refine GT_st rfl rfl rfl rfl (V_assign rfl rfl) ?_
  refine GT_nil ?_
  refine GE_seq ?_
  refine GE_seq ?_
  refine GE_slots (L' := [(11, _), (12, _), (13, _), (14, _)]) ⟨rfl, rfl, rfl, rfl, trivial⟩ ?_
  refine GE_plain (.st 0 (.st 1 (.st 2 (.st 3 (.st 4 (.st 5 .nil)))))) rfl ?_
  refine GT_st rfl rfl rfl rfl (V_move rfl rfl) ?_
  refine GT_st rfl rfl rfl rfl (V_isF (V_neq rfl rfl rfl) (by decide)) ?_
  refine GT_st rfl rfl rfl rfl (V_move rfl rfl) ?_
  refine GT_st_g rfl rfl rfl rfl rfl rfl rfl (V_move rfl rfl) ?_
  refine GT_st_g rfl rfl rfl rfl rfl rfl rfl (V_isF (V_neq rfl rfl rfl) (by decide)) ?_
  refine GT_st rfl rfl rfl rfl (V_pick_f rfl rfl rfl) ?_
  refine GT_nil ?_
  refine GE_cond_f rfl ?_
  refine GE_skip ?_
  refine GE_seq ?_
  refine GE_slots (L' := [(11, _), (13, _)]) ⟨rfl, rfl, trivial⟩ ?_
  refine GE_plain (.st 0 (.st 1 (.st 2 (.st 3 (.st 4 (.st 5 .nil)))))) rfl ?_
  refine GT_st rfl rfl rfl rfl (V_move rfl rfl) ?_
  refine GT_st rfl rfl rfl rfl (V_len rfl Try.underlying39 rfl) ?_
  refine GT_st rfl rfl rfl rfl (V_move rfl rfl) ?_
  refine GT_st rfl rfl rfl rfl (V_len rfl Try.underlying39 rfl) ?_
  refine GT_st rfl rfl rfl rfl (V_max rfl rfl rfl) ?_
  refine GT_st rfl rfl rfl rfl (V_assign rfl rfl) ?_
  refine GT_nil ?_
  refine GE_ret Try.func28 rfl (fun w hw => ⟨?_, hw.nil⟩)
  congr 1; omega
end
end Go.Proofs.Ytfaggcmcfhljpaa
