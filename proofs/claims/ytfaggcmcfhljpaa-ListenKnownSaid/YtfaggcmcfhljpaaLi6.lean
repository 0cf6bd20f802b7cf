/- Sets, searching, and all causes: walked. -/
import Derived.Test.YtfaggcmcfhljpaaLi5
namespace Go.Proofs.Ytfaggcmcfhljpaa
open Go.Sx Go.Proofs

section
variable {p : List Plt} {d : List Dsc} {A A2 A3 A4 : Option Addr} {c c2 c3 c4 g : Nat} {side : Int} {w : World}
theorem C_slices_Clone {l : List Bool} {a : Addr} (hl : RdL w 1 eB (some a) l) (hn : l.length ≤ 1000000) :
    Con Try.prog 71 [.slice (some a) l.length c] w (fun y : Option Addr × Nat × Items => Own 1 4 eB l (.slice y.1 l.length y.2.1) y.2.2) (fun y => .slice y.1 l.length y.2.1) (fun y => y.2.2) := by
  refine Ret_of (vs := [_]) hm none' Try.func71 rfl Try.ntmps71 rfl ?_
  dsimp only [slotsOf]
  refine GE_seq ?_
  refine GE_plain (.st 0 .nil) rfl ?_
  refine GT_st rfl rfl rfl rfl (V_assign rfl rfl) ?_
  refine GT_nil ?_
  refine GE_seq ?_
  refine GE_seq ?_
  refine GE_plain (.st 0 (.st 1 .nil)) rfl ?_
  refine GT_st rfl rfl rfl rfl (V_move rfl rfl) ?_
  refine GT_st rfl rfl rfl rfl (V_eqlNilF rfl rfl rfl Try.underlying91) ?_
  refine GT_nil ?_
  refine GE_cond_f rfl ?_
  refine GE_skip ?_
  refine GE_seq ?_
  refine GE_plain (.ld 0 [] (.st 1 (.ld 2 [] (.st 3 .nil)))) rfl ?_
  refine GT_buildSlice (z := []) rfl rfl rfl rfl rfl Try.underlying91 zc_4 sz_4 (by decide) rfl rfl (fun _ => GR_nil) (fun b5 => ?_)
  refine GT_st rfl rfl rfl rfl (V_move rfl rfl) ?_
  refine GT_append (enc := eB) (l := []) (m := l) rfl rfl rfl rfl rfl rfl rfl (show Own 1 4 eB [] (.slice (some ⟨b5, 0, none⟩) 0 0) [(b5, blk [] 4)] from Own.lit rfl rfl (by decide)) (fun w m => hl.sh m) Try.underlying91 zc_4 sz_4 ⟨rfl, by decide⟩ by_4 ⟨by simp only [List.length_nil]; omega, by simp only [List.length_nil]; omega⟩ eB_len eB_one (fun _ _ _ _ => GR_nil) (fun A7 c7 I7 hO7 => ?_)
  refine GT_st rfl rfl rfl rfl (V_assign rfl rfl) ?_
  refine GT_nil ?_
  refine GE_ret Try.func71 rfl (fun w hw => ?_)
  exact ⟨(A7, c7, I7), hO7, rfl, hw.chunk⟩
theorem C_from {l : List Bool} {a : Addr} {v0 : Value} {k : Nat} (hv0 : v0.oneCell' = true) (hl : RdL w 1 eB (some a) l) (hn : l.length ≤ 1000000) (hk : k ≤ l.length) :
    Con Try.prog 65 [v0, .slice (some a) l.length c, I k] w (fun y : Option Addr × Nat × Items => Own 1 4 eB (fromK l k) (.slice y.1 (fromK l k).length y.2.1) y.2.2) (fun y => .slice y.1 (fromK l k).length y.2.1) (fun y => y.2.2) := by
  have hfl := fromK_len l k
  have hfk : fromK l k = List.replicate k false ++ l.drop k := by unfold fromK; rw [Nat.min_eq_left hk]
  refine Ret_of (vs := [_, _, _]) hm none' Try.func65 rfl Try.ntmps65 rfl ?_
  dsimp only [slotsOf]
  refine GE_seq ?_
  refine GE_plain (.st 0 .nil) rfl ?_
  refine GT_st rfl rfl rfl rfl (V_assign rfl rfl) ?_
  refine GT_nil ?_
  refine GE_seq ?_
  refine GE_plain (.st 0 (.ld 1 [] (.st 2 .nil))) rfl ?_
  refine GT_st rfl rfl rfl rfl (V_move rfl rfl) ?_
  refine GT_call rfl rfl rfl rfl rfl rfl rfl rfl rn_71 (fun w hw => C_slices_Clone (hl.sh hw) hn) (fun _ _ => GR_nil) (fun y hy => ?_)
  have hcap : l.length ≤ y.2.1 := (by obtain ⟨A', c', e, h⟩ := hy.form; cases e; exact h)
  refine GT_st rfl rfl rfl rfl (V_assign rfl rfl) ?_
  refine GT_nil ?_
  refine GE_seq ?_
  refine GE_slots (L' := [(2, _), (7, _)]) ⟨rfl, rfl, trivial⟩ ?_
  refine GE_plain (.st 0 (.st 1 (.st 2 (.ld 3 [] .nil)))) rfl ?_
  refine GT_st rfl rfl rfl rfl (V_move rfl rfl) ?_
  refine GT_st rfl rfl rfl rfl (V_move rfl rfl) ?_
  refine GT_st rfl rfl rfl rfl (V_sliceTo rfl rfl rfl Try.underlying91 (by rw [sz_4]; rfl) (h := k) (by omega)) ?_
  refine GT_clear (enc := eB) (q := k) (xx := false) rfl rfl rfl rfl rfl hy Try.underlying91 zc_4 eB_len rfl rfl hk (fun _ _ => GR_nil) (fun I' hO' => ?_)
  refine GT_nil ?_
  refine GE_seq ?_
  refine GE_slots (L' := [(7, _)]) ⟨rfl, trivial⟩ ?_
  refine GE_plain (.st 0 (.st 1 .nil)) rfl ?_
  refine GT_st rfl rfl rfl rfl (V_move rfl rfl) ?_
  refine GT_st rfl rfl rfl rfl (V_assign rfl rfl) ?_
  refine GT_nil ?_
  refine GE_ret Try.func65 rfl (fun w hw => ?_)
  rw [hfl]; rw [← hfk] at hO'; exact ⟨(y.1, y.2.1, I'), hO', rfl, hw.chunk⟩
theorem C_cmp_isNaN {x : Int} : Con0 Try.prog 72 [I x] w (.bool false) := by
  refine Ret_of (vs := [_]) hm none' Try.func72 rfl Try.ntmps72 rfl ?_
  dsimp only [slotsOf]
  refine GE_seq ?_
  refine GE_plain (.st 0 .nil) rfl ?_
  refine GT_st rfl rfl rfl rfl (V_assign rfl rfl) ?_
  refine GT_nil ?_
  refine GE_seq ?_
  refine GE_plain (.st 0 (.st 1 (.st 2 (.st 3 .nil)))) rfl ?_
  refine GT_st rfl rfl rfl rfl (V_move rfl rfl) ?_
  refine GT_st rfl rfl rfl rfl (V_move rfl rfl) ?_
  refine GT_st rfl rfl rfl rfl (V_neq rfl rfl rfl) ?_
  refine GT_st rfl rfl rfl rfl (V_assign rfl rfl) ?_
  refine GT_nil ?_
  refine GE_ret Try.func72 rfl (fun w hw => ⟨?_, hw.nil⟩)
  simp
theorem C_slices_isNaN {x : Int} : Con0 Try.prog 69 [I x] w (.bool false) := by
  refine Ret_of (vs := [_]) hm none' Try.func69 rfl Try.ntmps69 rfl ?_
  dsimp only [slotsOf]
  refine GE_seq ?_
  refine GE_plain (.st 0 .nil) rfl ?_
  refine GT_st rfl rfl rfl rfl (V_assign rfl rfl) ?_
  refine GT_nil ?_
  refine GE_seq ?_
  refine GE_plain (.st 0 (.st 1 (.st 2 (.st 3 .nil)))) rfl ?_
  refine GT_st rfl rfl rfl rfl (V_move rfl rfl) ?_
  refine GT_st rfl rfl rfl rfl (V_move rfl rfl) ?_
  refine GT_st rfl rfl rfl rfl (V_neq rfl rfl rfl) ?_
  refine GT_st rfl rfl rfl rfl (V_assign rfl rfl) ?_
  refine GT_nil ?_
  refine GE_ret Try.func69 rfl (fun w hw => ⟨?_, hw.nil⟩)
  simp
theorem C_cmp_Less {x y : Int} : Con0 Try.prog 68 [I x, I y] w (.bool (decide (x < y))) := by
  refine Ret_of (vs := [_, _]) hm none' Try.func68 rfl Try.ntmps68 rfl ?_
  dsimp only [slotsOf]
  refine GE_seq ?_
  refine GE_plain (.st 0 .nil) rfl ?_
  refine GT_st rfl rfl rfl rfl (V_assign rfl rfl) ?_
  refine GT_nil ?_
  refine GE_seq ?_
  refine GE_plain (.st 0 (.ld 1 [] (.st 2 (.st 3 (.ld 4 [] (.st 5 (.st 6 (.st 7 (.st 8 (.st 9 (.st 10 (.st 11 (.st 12 .nil))))))))))))) rfl ?_
  refine GT_st rfl rfl rfl rfl (V_move rfl rfl) ?_
  refine GT_call0 rfl rfl rfl rfl rfl rfl rfl rfl rn_72 (fun w hw => C_cmp_isNaN) (GR_nil) ?_
  refine GT_st rfl rfl rfl rfl (V_move rfl rfl) ?_
  refine GT_skip rfl rfl rfl rfl rfl (by decide) rfl rfl ?_
  refine GT_skip_ld rfl rfl rfl rfl rfl (by decide) rfl rfl rfl (GR_nil) ?_
  refine GT_skip rfl rfl rfl rfl rfl (by decide) rfl rfl ?_
  refine GT_st rfl rfl rfl rfl (V_pick_f rfl rfl rfl) ?_
  refine GT_st rfl rfl rfl rfl (V_move rfl rfl) ?_
  refine GT_st_g rfl rfl rfl rfl rfl rfl rfl (V_move rfl rfl) ?_
  refine GT_st_g rfl rfl rfl rfl rfl rfl rfl (V_move rfl rfl) ?_
  refine GT_st_g rfl rfl rfl rfl rfl rfl rfl (V_lss rfl rfl rfl) ?_
  refine GT_st rfl rfl rfl rfl (V_pick_f rfl rfl rfl) ?_
  refine GT_st rfl rfl rfl rfl (V_assign rfl rfl) ?_
  refine GT_nil ?_
  refine GE_ret Try.func68 rfl (fun w hw => ⟨?_, hw.nil⟩)
  rfl
theorem C_slices_BinarySearch {x : Int} (hr : RdL w 1 eI A (serS d)) (hd : DsOk p d) (hn : d.length ≤ 200) (hnl : c2 = d.length) :
    Con Try.prog 61 [.slice A c2 c, I x] w (fun i : Nat => known d x = true → i < d.length ∧ (d.getD i default).ser = x ∧ idxS d x = i) (fun i => .tuple #[I i, .bool (known d x)]) (fun _ => []) := by
  subst hnl
  have hsl := serS_len d
  refine Ret_of (vs := [_, _]) hm none' Try.func61 rfl Try.ntmps61 rfl ?_
  dsimp only [slotsOf]
  refine GE_seq ?_
  refine GE_plain (.st 0 (.st 1 .nil)) rfl ?_
  refine GT_st rfl rfl rfl rfl (V_assign rfl rfl) ?_
  refine GT_st rfl rfl rfl rfl (V_assign rfl rfl) ?_
  refine GT_nil ?_
  refine GE_seq ?_
  refine GE_plain (.st 0 (.st 1 (.st 2 .nil))) rfl ?_
  refine GT_st rfl rfl rfl rfl (V_move rfl rfl) ?_
  refine GT_st rfl rfl rfl rfl (V_len rfl Try.underlying42 rfl) ?_
  refine GT_st rfl rfl rfl rfl (V_assign rfl rfl) ?_
  refine GT_nil ?_
  refine GE_seq ?_
  refine GE_slots (L' := [(0, _), (1, _), (6, _)]) ⟨rfl, rfl, rfl, trivial⟩ ?_
  refine GE_plain (.st 0 (.st 1 (.st 2 .nil))) rfl ?_
  refine GT_st rfl rfl rfl rfl (V_move rfl rfl) ?_
  refine GT_st rfl rfl rfl rfl (V_assign rfl rfl) ?_
  refine GT_st rfl rfl rfl rfl (V_assign rfl rfl) ?_
  refine GT_nil ?_
  refine GE_seq ?_
  refine GE_block ?_
  refine GE_to (GE_loop (ι := Nat × Nat) (fun y => y.2 - y.1) (fun y => [(0, .slice A d.length c), (1, I x), (6, I d.length), (7, I y.1), (8, I y.2)]) (fun y => []) (fun y => y.1 ≤ y.2 ∧ y.2 ≤ d.length ∧ (∀ q, q < y.1 → (d.getD q default).ser < x) ∧ (∀ q, y.2 ≤ q → q < d.length → x ≤ (d.getD q default).ser)) ?_ (0, d.length) ?_) ⟨rfl, rfl, rfl, rfl, rfl, trivial⟩ HS.nil
  · rintro ⟨i, j⟩ ⟨hij, hj, hlo, hhi⟩ ih; dsimp only at hij hj hlo hhi ih ⊢
    refine GE_seq ?_
    refine GE_seq ?_
    refine GE_plain (.st 0 (.st 1 (.st 2 .nil))) rfl ?_
    refine GT_st rfl rfl rfl rfl (V_move rfl rfl) ?_
    refine GT_st rfl rfl rfl rfl (V_move rfl rfl) ?_
    refine GT_st rfl rfl rfl rfl (V_lss rfl rfl rfl) ?_
    refine GT_nil ?_
    first | refine GE_condNot rfl (fun h1 => ?_) (fun h1 => ?_) | refine GE_cond rfl (fun h1 => ?_) (fun h1 => ?_) | refine GE_condNotB rfl (fun h1 => ?_) (fun h1 => ?_) | refine GE_condB rfl (fun h1 => ?_) (fun h1 => ?_)
    · have hlt : i < j := (by omega); have hm1 : (i + j) / 2 < d.length := (by omega)
      refine GE_skip ?_
      refine GE_block ?_
      refine GE_seq ?_
      refine GE_plain (.st 0 (.st 1 (.st 2 (.st 3 (.st 4 (.st 5 (.st 6 .nil))))))) rfl ?_
      refine GT_st rfl rfl rfl rfl (V_move rfl rfl) ?_
      refine GT_st rfl rfl rfl rfl (V_move rfl rfl) ?_
      refine GT_st rfl rfl rfl rfl (V_add rfl rfl rfl (wrap_i64 (by omega))) ?_
      refine GT_st rfl rfl rfl rfl (V_convII rfl rfl (by rw [Try.underlying3]; rfl) Try.underlying122 (wrap_u64 (by omega))) ?_
      refine GT_st rfl rfl rfl rfl (V_shr (s := 1) (d := 2) rfl rfl rfl (by decide) (by decide)) ?_
      refine GT_st rfl rfl rfl rfl (V_convII rfl rfl (by rw [Try.underlying122]; rfl) Try.underlying3 (((wrap_i64 (by omega)).trans (show _ = (((i + j) / 2 : Nat) : Int) by omega)))) ?_
      refine GT_st rfl rfl rfl rfl (V_assign rfl rfl) ?_
      refine GT_nil ?_
      refine GE_seq ?_
      refine GE_slots (L' := [(0, _), (1, _), (6, _), (7, _), (8, _), (9, _)]) ⟨rfl, rfl, rfl, rfl, rfl, rfl, trivial⟩ ?_
      refine GE_plain (.st 0 (.st 1 (.st 2 (.st 3 (.st 4 (.ld 5 [] .nil)))))) rfl ?_
      refine GT_st rfl rfl rfl rfl (V_move rfl rfl) ?_
      refine GT_st rfl rfl rfl rfl (V_move rfl rfl) ?_
      refine GT_st rfl rfl rfl rfl (V_index rfl rfl rfl Try.underlying42 sz_2 (k := (i + j) / 2) rfl hm1 (hr.isSome (k := (i + j) / 2) (by omega))) ?_
      refine GT_st rfl rfl rfl rfl (V_load rfl rfl ag_2 (hr.at0 noM (by omega) (by rw [serS_get hm1]; rfl))) ?_
      refine GT_st rfl rfl rfl rfl (V_move rfl rfl) ?_
      refine GT_call0 rfl rfl rfl rfl rfl rfl rfl rfl rn_68 (fun w hw => C_cmp_Less) (GR_nil) ?_
      refine GT_nil ?_
      first | refine GE_condNot rfl (fun h2 => ?_) (fun h2 => ?_) | refine GE_cond rfl (fun h2 => ?_) (fun h2 => ?_) | refine GE_condNotB rfl (fun h2 => ?_) (fun h2 => ?_) | refine GE_condB rfl (fun h2 => ?_) (fun h2 => ?_)
      · skip
        refine GE_slots (L' := [(0, _), (1, _), (6, _), (8, _), (9, _)]) ⟨rfl, rfl, rfl, rfl, rfl, trivial⟩ ?_
        refine GE_plain (.st 0 (.st 1 (.st 2 .nil))) rfl ?_
        refine GT_st rfl rfl rfl rfl (V_move rfl rfl) ?_
        refine GT_st rfl rfl rfl rfl (V_add rfl rfl rfl (wrap_i64 (by omega))) ?_
        refine GT_st rfl rfl rfl rfl (V_assign rfl rfl) ?_
        refine GT_nil ?_
        refine GE_inBlock ?_
        first
          | exact GE_to (ih ((i + j) / 2 + 1, j) ⟨by dsimp only; omega, hj, (fun q hq => by dsimp only at hq; rcases Nat.lt_or_ge q ((i + j) / 2) with r | r; have := ser_lt hd r hm1; omega; rw [show q = (i + j) / 2 by omega]; exact h2), hhi⟩ (by dsimp only; omega)) ⟨rfl, rfl, rfl, rfl, rfl, trivial⟩ HS.nil
          | exact GE_to (ih (i, (i + j) / 2) ⟨by dsimp only; omega, by dsimp only; omega, hlo, (fun q hq hql => by dsimp only at hq; rcases Nat.lt_or_ge ((i + j) / 2) q with r | r; have := ser_lt hd r hql; omega; rw [show q = (i + j) / 2 by omega]; omega)⟩ (by dsimp only; omega)) ⟨rfl, rfl, rfl, rfl, rfl, trivial⟩ HS.nil
      · skip
        refine GE_slots (L' := [(0, _), (1, _), (6, _), (7, _), (9, _)]) ⟨rfl, rfl, rfl, rfl, rfl, trivial⟩ ?_
        refine GE_plain (.st 0 (.st 1 .nil)) rfl ?_
        refine GT_st rfl rfl rfl rfl (V_move rfl rfl) ?_
        refine GT_st rfl rfl rfl rfl (V_assign rfl rfl) ?_
        refine GT_nil ?_
        refine GE_inBlock ?_
        first
          | exact GE_to (ih ((i + j) / 2 + 1, j) ⟨by dsimp only; omega, hj, (fun q hq => by dsimp only at hq; rcases Nat.lt_or_ge q ((i + j) / 2) with r | r; have := ser_lt hd r hm1; omega; rw [show q = (i + j) / 2 by omega]; exact h2), hhi⟩ (by dsimp only; omega)) ⟨rfl, rfl, rfl, rfl, rfl, trivial⟩ HS.nil
          | exact GE_to (ih (i, (i + j) / 2) ⟨by dsimp only; omega, by dsimp only; omega, hlo, (fun q hq hql => by dsimp only at hq; rcases Nat.lt_or_ge ((i + j) / 2) q with r | r; have := ser_lt hd r hql; omega; rw [show q = (i + j) / 2 by omega]; omega)⟩ (by dsimp only; omega)) ⟨rfl, rfl, rfl, rfl, rfl, trivial⟩ HS.nil
    · obtain rfl : i = j := (by omega)
      refine GE_exit rfl ?_
      refine GE_seq ?_
      refine GE_slots (L' := [(0, _), (1, _), (6, _), (7, _)]) ⟨rfl, rfl, rfl, rfl, trivial⟩ ?_
      refine GE_plain (.st 0 (.st 1 (.st 2 (.st 3 (.st 4 (.st 5 (.st 6 (.st 7 (.st 8 (.st 9 (.st 10 (.st 11 (.st 12 (.st 13 (.st 14 (.st 15 (.ld 16 [] (.st 17 (.st 18 (.ld 19 [] (.st 20 (.st 21 (.st 22 (.st 23 (.st 24 .nil))))))))))))))))))))))))) rfl ?_
      refine GT_st rfl rfl rfl rfl (V_move rfl rfl) ?_
      refine GT_st rfl rfl rfl rfl (V_move rfl rfl) ?_
      refine GT_st rfl rfl rfl rfl (V_move rfl rfl) ?_
      refine GT_st rfl rfl rfl rfl (V_lss rfl rfl rfl) ?_
      refine GT_st rfl rfl rfl rfl (V_move rfl rfl) ?_
      first | refine GT_splitNot (d := 35) rfl (fun h3 => ?_) (fun h3 => ?_) | refine GT_split (d := 35) rfl (fun h3 => ?_) (fun h3 => ?_) | refine GT_splitNotB (d := 35) rfl (fun h3 => ?_) (fun h3 => ?_) | refine GT_splitB (d := 35) rfl (fun h3 => ?_) (fun h3 => ?_)
      · have hil : i < d.length := (by omega)
        refine GT_st_g rfl rfl rfl rfl rfl rfl rfl (V_move rfl rfl) ?_
        refine GT_st_g rfl rfl rfl rfl rfl rfl rfl (V_move rfl rfl) ?_
        refine GT_st_g rfl rfl rfl rfl rfl rfl rfl (V_index rfl rfl rfl Try.underlying42 sz_2 (k := i) rfl hil (hr.isSome (k := i) (by omega))) ?_
        refine GT_st_g rfl rfl rfl rfl rfl rfl rfl (V_load rfl rfl ag_2 (hr.at0 noM (by omega) (by rw [serS_get hil]; rfl))) ?_
        refine GT_st_g rfl rfl rfl rfl rfl rfl rfl (V_move rfl rfl) ?_
        refine GT_st_g rfl rfl rfl rfl rfl rfl rfl (V_eql rfl rfl rfl) ?_
        refine GT_st_g rfl rfl rfl rfl rfl rfl rfl (V_move rfl rfl) ?_
        first | refine GT_splitNot (d := 42) rfl (fun h4 => ?_) (fun h4 => ?_) | refine GT_split (d := 42) rfl (fun h4 => ?_) (fun h4 => ?_) | refine GT_splitNotB (d := 42) rfl (fun h4 => ?_) (fun h4 => ?_) | refine GT_splitB (d := 42) rfl (fun h4 => ?_) (fun h4 => ?_)
        · have hyes : known d x = true := known_iff.2 ⟨i, hil, h4⟩
          refine GT_skip rfl rfl rfl rfl rfl (by decide) rfl rfl ?_
          refine GT_skip rfl rfl rfl rfl rfl (by decide) rfl rfl ?_
          refine GT_skip rfl rfl rfl rfl rfl (by decide) rfl rfl ?_
          refine GT_skip rfl rfl rfl rfl rfl (by decide) rfl rfl ?_
          refine GT_skip_ld rfl rfl rfl rfl rfl (by decide) rfl rfl rfl (GR_nil) ?_
          refine GT_skip rfl rfl rfl rfl rfl (by decide) rfl rfl ?_
          refine GT_skip rfl rfl rfl rfl rfl (by decide) rfl rfl ?_
          refine GT_skip_ld rfl rfl rfl rfl rfl (by decide) rfl rfl rfl (GR_nil) ?_
          refine GT_skip rfl rfl rfl rfl rfl (by decide) rfl rfl ?_
          refine GT_st_g rfl rfl rfl rfl rfl rfl rfl (V_pick_t rfl rfl rfl) ?_
          refine GT_st rfl rfl rfl rfl (V_pick_t rfl rfl rfl) ?_
          refine GT_st rfl rfl rfl rfl (V_assign rfl rfl) ?_
          refine GT_st rfl rfl rfl rfl (V_assign rfl rfl) ?_
          refine GT_nil ?_
          refine GE_ret Try.func61 ⟨_, _, rfl, rfl, rfl⟩ (fun w hw => ?_)
          first | exact ⟨i, fun q => (by rw [hno] at q; cases q), by rw [hno], hw.nil⟩ | exact ⟨i, fun _ => ⟨hil, h4, by rw [← h4]; exact idxS_of hd hil⟩, by rw [hyes], hw.nil⟩
        · have hno : known d x = false := (by rw [← Bool.not_eq_true, known_iff]; rintro ⟨q, hq, e⟩; rcases Nat.lt_trichotomy q i with r | r | r; have := hlo q r; omega; subst r; exact h4 e; have := ser_lt hd r hq; have := hhi i (Nat.le_refl _) hil; omega)
          refine GT_st_g rfl rfl rfl rfl rfl rfl rfl (V_move rfl rfl) ?_
          refine GT_st_g rfl rfl rfl rfl rfl rfl rfl (V_move rfl rfl) ?_
          refine GT_st_g rfl rfl rfl rfl rfl rfl rfl (V_index rfl rfl rfl Try.underlying42 sz_2 (k := i) rfl hil (hr.isSome (k := i) (by omega))) ?_
          refine GT_st_g rfl rfl rfl rfl rfl rfl rfl (V_load rfl rfl ag_2 (hr.at0 noM (by omega) (by rw [serS_get hil]; rfl))) ?_
          refine GT_call0_g rfl rfl rfl rfl rfl rfl rfl rfl rfl rfl rfl rn_69 (fun w hw => C_slices_isNaN) (GR_nil) ?_
          refine GT_st_g rfl rfl rfl rfl rfl rfl rfl (V_move rfl rfl) ?_
          refine GT_skip rfl rfl rfl rfl rfl (by decide) rfl rfl ?_
          refine GT_skip_ld rfl rfl rfl rfl rfl (by decide) rfl rfl rfl (GR_nil) ?_
          refine GT_st_g rfl rfl rfl rfl rfl rfl rfl (V_pick_f rfl rfl rfl) ?_
          refine GT_st_g rfl rfl rfl rfl rfl rfl rfl (V_pick_f rfl rfl rfl) ?_
          refine GT_st rfl rfl rfl rfl (V_pick_t rfl rfl rfl) ?_
          refine GT_st rfl rfl rfl rfl (V_assign rfl rfl) ?_
          refine GT_st rfl rfl rfl rfl (V_assign rfl rfl) ?_
          refine GT_nil ?_
          refine GE_ret Try.func61 ⟨_, _, rfl, rfl, rfl⟩ (fun w hw => ?_)
          first | exact ⟨i, fun q => (by rw [hno] at q; cases q), by rw [hno], hw.nil⟩ | exact ⟨i, fun _ => ⟨hil, h4, by rw [← h4]; exact idxS_of hd hil⟩, by rw [hyes], hw.nil⟩
      · have hno : known d x = false := (by rw [← Bool.not_eq_true, known_iff]; rintro ⟨q, hq, e⟩; have := hlo q (by omega); omega)
        refine GT_skip rfl rfl rfl rfl rfl (by decide) rfl rfl ?_
        refine GT_skip rfl rfl rfl rfl rfl (by decide) rfl rfl ?_
        refine GT_skip rfl rfl rfl rfl rfl (by decide) rfl rfl ?_
        refine GT_skip rfl rfl rfl rfl rfl (by decide) rfl rfl ?_
        refine GT_skip rfl rfl rfl rfl rfl (by decide) rfl rfl ?_
        refine GT_skip rfl rfl rfl rfl rfl (by decide) rfl rfl ?_
        refine GT_skip rfl rfl rfl rfl rfl (by decide) rfl rfl ?_
        refine GT_skip rfl rfl rfl rfl rfl (by decide) rfl rfl ?_
        refine GT_skip rfl rfl rfl rfl rfl (by decide) rfl rfl ?_
        refine GT_skip rfl rfl rfl rfl rfl (by decide) rfl rfl ?_
        refine GT_skip rfl rfl rfl rfl rfl (by decide) rfl rfl ?_
        refine GT_skip_ld rfl rfl rfl rfl rfl (by decide) rfl rfl rfl (GR_nil) ?_
        refine GT_skip rfl rfl rfl rfl rfl (by decide) rfl rfl ?_
        refine GT_skip rfl rfl rfl rfl rfl (by decide) rfl rfl ?_
        refine GT_skip_ld rfl rfl rfl rfl rfl (by decide) rfl rfl rfl (GR_nil) ?_
        refine GT_skip rfl rfl rfl rfl rfl (by decide) rfl rfl ?_
        refine GT_skip rfl rfl rfl rfl rfl (by decide) rfl rfl ?_
        refine GT_st rfl rfl rfl rfl (V_pick_f rfl rfl rfl) ?_
        refine GT_st rfl rfl rfl rfl (V_assign rfl rfl) ?_
        refine GT_st rfl rfl rfl rfl (V_assign rfl rfl) ?_
        refine GT_nil ?_
        refine GE_ret Try.func61 ⟨_, _, rfl, rfl, rfl⟩ (fun w hw => ?_)
        first | exact ⟨i, fun q => (by rw [hno] at q; cases q), by rw [hno], hw.nil⟩ | exact ⟨i, fun _ => ⟨hil, h4, by rw [← h4]; exact idxS_of hd hil⟩, by rw [hyes], hw.nil⟩
  · exact ⟨Nat.zero_le _, Nat.le_refl _, fun i hi => absurd hi (Nat.not_lt_zero _), fun i h1 h2 => by omega⟩
theorem C_slices_Equal {l m : List Bool} (hl : RdL w 1 eB A l) (hv : RdL w 1 eB A2 m) (hn : l.length ≤ 1000000) :
    Con0 Try.prog 66 [.slice A l.length c, .slice A2 m.length c2] w (.bool (l == m)) := by
  refine Ret_of (vs := [_, _]) hm none' Try.func66 rfl Try.ntmps66 rfl ?_
  dsimp only [slotsOf]
  refine GE_seq ?_
  refine GE_plain (.st 0 .nil) rfl ?_
  refine GT_st rfl rfl rfl rfl (V_assign rfl rfl) ?_
  refine GT_nil ?_
  refine GE_seq ?_
  refine GE_seq ?_
  refine GE_plain (.st 0 (.st 1 (.st 2 (.st 3 (.st 4 .nil))))) rfl ?_
  refine GT_st rfl rfl rfl rfl (V_move rfl rfl) ?_
  refine GT_st rfl rfl rfl rfl (V_len rfl Try.underlying91 rfl) ?_
  refine GT_st rfl rfl rfl rfl (V_move rfl rfl) ?_
  refine GT_st rfl rfl rfl rfl (V_len rfl Try.underlying91 rfl) ?_
  refine GT_st rfl rfl rfl rfl (V_neq rfl rfl rfl) ?_
  refine GT_nil ?_
  first | refine GE_condNot rfl (fun h1 => ?_) (fun h1 => ?_) | refine GE_cond rfl (fun h1 => ?_) (fun h1 => ?_) | refine GE_condNotB rfl (fun h1 => ?_) (fun h1 => ?_) | refine GE_condB rfl (fun h1 => ?_) (fun h1 => ?_)
  · have e : (l == m) = false := (by rw [← Bool.not_eq_true, beq_iff_eq]; rintro rfl; exact h1 rfl)
    refine GE_seq ?_
    refine GE_slots (L' := []) trivial ?_
    refine GE_plain (.st 0 .nil) rfl ?_
    refine GT_st rfl rfl rfl rfl (V_assign rfl rfl) ?_
    refine GT_nil ?_
    refine GE_ret Try.func66 rfl (fun w hw => ⟨?_, hw.nil⟩)
    rw [e]
  · have hlm : l.length = m.length := (by omega)
    refine GE_skip ?_
    refine GE_seq ?_
    refine GE_seq ?_
    refine GE_slots (L' := [(0, _), (1, _)]) ⟨rfl, rfl, trivial⟩ ?_
    refine GE_plain (.st 0 (.st 1 (.st 2 .nil))) rfl ?_
    refine GT_st rfl rfl rfl rfl (V_move rfl rfl) ?_
    refine GT_st rfl rfl rfl rfl (V_len rfl Try.underlying91 rfl) ?_
    refine GT_st rfl rfl rfl rfl (V_move rfl rfl) ?_
    refine GT_nil ?_
    refine GE_block ?_
    refine GE_to (GE_loop (ι := Nat) (fun k => l.length - k) (fun k => [(0, .slice A l.length c), (1, .slice A2 m.length c2), (12, I l.length), (13, I k)]) (fun k => []) (fun k => k ≤ l.length ∧ ∀ q, q < k → l.getD q default = m.getD q default) ?_ 0 ?_) ⟨rfl, rfl, rfl, rfl, trivial⟩ HS.nil
    · rintro k ⟨hk, hall⟩ ih
      refine GE_seq ?_
      refine GE_plain (.st 0 .nil) rfl ?_
      refine GT_st rfl rfl rfl rfl (V_lss rfl rfl rfl) ?_
      refine GT_nil ?_
      refine GE_seq ?_
      first | refine GE_condNot rfl (fun h2 => ?_) (fun h2 => ?_) | refine GE_cond rfl (fun h2 => ?_) (fun h2 => ?_) | refine GE_condNotB rfl (fun h2 => ?_) (fun h2 => ?_) | refine GE_condB rfl (fun h2 => ?_) (fun h2 => ?_)
      · have hkl : k < l.length := (by omega)
        refine GE_skip ?_
        refine GE_seq ?_
        refine GE_block ?_
        refine GE_seq ?_
        refine GE_plain (.st 0 (.st 1 .nil)) rfl ?_
        refine GT_st rfl rfl rfl rfl (V_move rfl rfl) ?_
        refine GT_st rfl rfl rfl rfl (V_assign rfl rfl) ?_
        refine GT_nil ?_
        refine GE_seq ?_
        refine GE_drawn (.st 0 (.st 1 (.st 2 (.st 3 (.st 4 (.st 5 (.st 6 (.st 7 (.st 8 .nil))))))))) [] (by decide +kernel) ?_
        refine GT_st rfl rfl rfl rfl (V_move rfl rfl) ?_
        refine GT_st rfl rfl rfl rfl (V_move rfl rfl) ?_
        refine GT_st rfl rfl rfl rfl (V_index rfl rfl rfl Try.underlying91 sz_4 (k := k) rfl hkl (hl.isSome hkl)) ?_
        refine GT_st rfl rfl rfl rfl (V_load rfl rfl ag_4 (hl.at0 noM hkl rfl)) ?_
        refine GT_st rfl rfl rfl rfl (V_move rfl rfl) ?_
        refine GT_st rfl rfl rfl rfl (V_move rfl rfl) ?_
        refine GT_st rfl rfl rfl rfl (V_index rfl rfl rfl Try.underlying91 sz_4 (k := k) rfl (by omega) (hv.isSome (k := k) (by omega))) ?_
        refine GT_st rfl rfl rfl rfl (V_load rfl rfl ag_4 (hv.at0 noM (by omega) rfl)) ?_
        refine GT_st rfl rfl rfl rfl (V_neqBB rfl rfl rfl Try.underlying4) ?_
        refine GT_nil ?_
        first | refine GE_condNot rfl (fun h3 => ?_) (fun h3 => ?_) | refine GE_cond rfl (fun h3 => ?_) (fun h3 => ?_) | refine GE_condNotB rfl (fun h3 => ?_) (fun h3 => ?_) | refine GE_condB rfl (fun h3 => ?_) (fun h3 => ?_)
        · have e : (l == m) = false := (by rw [← Bool.not_eq_true, beq_iff_eq]; rintro rfl; simp at h3)
          refine GE_seq ?_
          refine GE_slots (L' := []) trivial ?_
          refine GE_plain (.st 0 .nil) rfl ?_
          refine GT_st rfl rfl rfl rfl (V_assign rfl rfl) ?_
          refine GT_nil ?_
          refine GE_ret Try.func66 rfl (fun w hw => ⟨?_, hw.nil⟩)
          rw [e]
        · have hqk : l.getD k default = m.getD k default := (by simpa using h3)
          refine GE_skip ?_
          refine GE_inBlock ?_
          refine GE_slots (L' := [(0, _), (1, _), (12, _), (13, _)]) ⟨rfl, rfl, rfl, rfl, trivial⟩ ?_
          refine GE_plain (.st 0 (.ld 1 [] .nil)) rfl ?_
          refine GT_st rfl rfl rfl rfl (V_add rfl rfl rfl (wrap_i64 (by omega))) ?_
          refine GT_ldv rfl rfl rfl rfl rfl (V_move rfl rfl) (GR_nil) ?_
          refine GT_nil ?_
          exact GE_to (ih (k + 1) ⟨by omega, fun q hq => by rcases Nat.lt_or_ge q k with r | r; exact hall q r; rw [show q = k by omega]; exact hqk⟩ (by omega)) ⟨rfl, rfl, rfl, rfl, trivial⟩ HS.nil
      · have e : (l == m) = true := (by rw [beq_iff_eq]; exact ext_getD hlm (fun q hq => hall q (by omega)))
        refine GE_exit rfl ?_
        refine GE_seq ?_
        refine GE_slots (L' := []) trivial ?_
        refine GE_plain (.st 0 .nil) rfl ?_
        refine GT_st rfl rfl rfl rfl (V_assign rfl rfl) ?_
        refine GT_nil ?_
        refine GE_ret Try.func66 rfl (fun w hw => ⟨?_, hw.nil⟩)
        rw [e]
    · exact ⟨Nat.zero_le _, fun j hj => absurd hj (Nat.not_lt_zero _)⟩
theorem C_set_equal {l m : List Bool} (hl : RdL w 1 eB A l) (hv : RdL w 1 eB A2 m) (hn : l.length ≤ 1000000) :
    Con0 Try.prog 50 [.slice A l.length c, .slice A2 m.length c2] w (.bool (l == m)) := by
  refine Ret_of (vs := [_, _]) hm none' Try.func50 rfl Try.ntmps50 rfl ?_
  dsimp only [slotsOf]
  refine GE_seq ?_
  refine GE_plain (.st 0 .nil) rfl ?_
  refine GT_st rfl rfl rfl rfl (V_assign rfl rfl) ?_
  refine GT_nil ?_
  refine GE_seq ?_
  refine GE_plain (.st 0 (.st 1 (.ld 2 [] (.st 3 .nil)))) rfl ?_
  refine GT_st rfl rfl rfl rfl (V_move rfl rfl) ?_
  refine GT_st rfl rfl rfl rfl (V_move rfl rfl) ?_
  refine GT_call0 rfl rfl rfl rfl rfl rfl rfl rfl rn_66 (fun w hw => C_slices_Equal (hl.sh hw) (hv.sh hw) hn) (GR_nil) ?_
  refine GT_st rfl rfl rfl rfl (V_assign rfl rfl) ?_
  refine GT_nil ?_
  refine GE_ret Try.func50 rfl (fun w hw => ⟨?_, hw.nil⟩)
  rfl
end
end Go.Proofs.Ytfaggcmcfhljpaa
