/- TakeQuiet, walked. -/
import Derived.Test.YtnklkobhjdkblaaDoorTa7
import Derived.Test.YtnklkobhjdkblaaDoorTaU
namespace Go.Proofs.YtnklkobhjdkblaaDoor
open Go.Sx Go.Proofs Go.RowKit

theorem quiet_at {s : List Sam} {a : Int} {at' i : Nat} (hlt : ∀ j, j < at' → ((sil s a 1).getD j default).2 ≤ i) (hge : at' < (sil s a 1).length → (i : Int) < ((sil s a 1).getD at' default).2) (hi : i < s.length) :
    (at' < (sil s a 1).length ∧ ((sil s a 1).getD at' default).1 ≤ i) ↔ quiet a (s.getD i default) = true := by
  constructor
  · rintro ⟨h1, h2⟩
    exact (sil_ok s a).held at' i h1 h2 (hge h1)
  · intro hq
    obtain ⟨j, hj, h1, h2⟩ := sil_all s a hi hq
    rcases Nat.lt_trichotomy j at' with h | h | h
    · have := hlt j h; omega
    · subst h; exact ⟨hj, h1⟩
    · have h3 := (sil_ok s a).apart at' j h hj
      have := hge (by omega); omega
theorem filter_at {α : Type} [Inhabited α] {x : List α} {f : α → Bool} {i : Nat} (hi : i < x.length) :
    (f (x.getD i default) = true → ((x.take i).filter f).length < (x.filter f).length ∧ (x.filter f).getD ((x.take i).filter f).length default = x.getD i default ∧ ((x.take (i + 1)).filter f).length = ((x.take i).filter f).length + 1) ∧
    (f (x.getD i default) = false → ((x.take (i + 1)).filter f).length = ((x.take i).filter f).length) := by
  have e : x = x.take i ++ x.getD i default :: x.drop (i + 1) := by
    conv => lhs; rw [← List.take_append_drop i x]
    rw [List.drop_eq_getElem_cons hi]; simp [List.getD, hi]
  have e1 : x.take (i + 1) = x.take i ++ [x.getD i default] := by rw [List.take_add_one, List.getElem?_eq_getElem hi]; simp [List.getD, hi]
  constructor
  · intro h
    have e2 : x.filter f = (x.take i).filter f ++ x.getD i default :: (x.drop (i + 1)).filter f := by
      conv => lhs; rw [e]
      rw [List.filter_append, List.filter_cons_of_pos h]
    refine ⟨?_, ?_, ?_⟩
    · rw [e2]; simp
    · rw [e2]; simp [List.getD]
    · rw [e1, List.filter_append, List.filter_cons_of_pos h]; simp
  · intro h
    rw [e1, List.filter_append, List.filter_cons_of_neg (by rw [h]; decide)]; simp
section
variable {w : World} {A : Option Addr} {c : Nat} {s : List Sam}
theorem C_SilOk {a least : Int} (h : RdL w 2 eSam A s) (h0 : sErr s = 0) (ha : 0 ≤ a ∧ a ≤ 32767) (hl : 1 ≤ least ∧ least ≤ 4096) : Con Tryd.prog 19 [.slice A s.length c, I a, I least] w (fun y : Option Addr × Nat × Items => Own 2 42 eIv (sil s a least) (.slice y.1 (sil s a least).length y.2.1) y.2.2)
    (fun y => .tuple #[.slice y.1 (sil s a least).length y.2.1, I 0]) (fun y => y.2.2) := by
  have h1 := C_Silences (c := c) (a := a) (least := least) h
  have e : iErr s a least = 0 := by rw [iErr, if_pos h0, if_pos (by rw [Bool.and_eq_true]; exact ⟨betw_iff.2 ha, betw_iff.2 hl⟩)]
  have e2 : silL s a least = sil s a least := if_pos e
  rw [e, e2] at h1
  exact h1
theorem Iv.of_arr {a b : Iv} (h : (a.1 == b.1 && a.2 == b.2) = true) : a = b := by
  simp only [Bool.and_eq_true, beq_iff_eq] at h
  exact Prod.ext h.1 h.2
set_option maxRecDepth 10000 in
set_option maxHeartbeats 2000000 in
theorem L_TakeQuiet {lim more least : Int} (h : RdL w 2 eSam A s) (hx : s.length ≤ c ∧ c ≤ maxLen ∧ ∀ x ∈ s, x.wf) (h1 : 0 ≤ lim ∧ lim ≤ 65535) (h2 : 0 ≤ more ∧ more ≤ 65535) (h3 : 0 ≤ least ∧ least ≤ 255) :
    Con0 Tryd.prog 4 [.slice A s.length c, .int .u16 lim, .int .u16 more, .int .u8 least] w (.bool true) := by
  have ha : 0 ≤ lim.tmod 32768 ∧ lim.tmod 32768 ≤ 32767 := by rw [Int.tmod_eq_emod_of_nonneg h1.1]; omega
  have hs := hx.2.2
  refine Ret_of (vs := [_, _, _, _]) hm none' Tryd.func4 rfl Tryd.ntmps4 rfl ?_
  dsimp only [slotsOf]
  refine GE_seq ?_
  refine GE_plain (.st 0 .nil) rfl ?_
  refine GT_st rfl rfl rfl rfl (V_assign rfl rfl) ?_
  refine GT_nil ?_
  refine GE_seq ?_
  refine GE_seq ?_
  refine GE_plain (.st 0 (.st 1 (.st 2 (.st 3 (.st 4 (.ld 5 [] (.st 6 (.st 7 .nil)))))))) rfl ?_
  refine GT_st rfl rfl rfl rfl (V_move rfl rfl) ?_
  refine GT_st rfl rfl rfl rfl (V_len rfl Tryd.underlying22 rfl) ?_
  refine GT_st rfl rfl rfl rfl (V_gtr rfl rfl rfl) ?_
  refine GT_st rfl rfl rfl rfl (V_move rfl rfl) ?_
  first | refine GT_splitNot (d := 28) rfl (fun q1 => ?_) (fun q1 => ?_) | refine GT_split (d := 28) rfl (fun q1 => ?_) (fun q1 => ?_) | refine GT_splitNotB (d := 28) rfl (fun q1 => ?_) (fun q1 => ?_) | refine GT_splitB (d := 28) rfl (fun q1 => ?_) (fun q1 => ?_)
  · skip
    refine GT_skip rfl rfl rfl rfl rfl (by decide) rfl rfl ?_
    refine GT_skip_ld rfl rfl rfl rfl rfl (by decide) rfl rfl rfl (GR_nil) ?_
    refine GT_skip rfl rfl rfl rfl rfl (by decide) rfl rfl ?_
    refine GT_st rfl rfl rfl rfl (V_pick_t rfl rfl rfl) ?_
    refine GT_nil ?_
    refine GE_cond_t rfl ?_
    refine GE_seq ?_
    refine GE_slots (L' := []) trivial ?_
    refine GE_plain (.ld 0 [] (.st 1 .nil)) rfl ?_
    refine GT_call0 rfl rfl rfl rfl rfl rfl rfl rfl rn_16 (fun w hw => C_Works) (GR_nil) ?_
    refine GT_st rfl rfl rfl rfl (V_assign rfl rfl) ?_
    refine GT_nil ?_
    refine GE_ret Tryd.func4 rfl (fun w hw => ⟨?_, hw.nil⟩)
    rfl
  · skip
    refine GT_st_g rfl rfl rfl rfl rfl rfl rfl (V_move rfl rfl) ?_
    refine GT_call0_g rfl rfl rfl rfl rfl rfl rfl rfl rfl rfl rfl rn_15 (fun w hw => C_rCheckSamples (h.sh hw) hs) (GR_nil) ?_
    refine GT_st_g rfl rfl rfl rfl rfl rfl rfl (V_neq rfl rfl rfl) ?_
    refine GT_st rfl rfl rfl rfl (V_pick_f rfl rfl rfl) ?_
    refine GT_nil ?_
    first | refine GE_condNot rfl (fun q2 => ?_) (fun q2 => ?_) | refine GE_cond rfl (fun q2 => ?_) (fun q2 => ?_) | refine GE_condNotB rfl (fun q2 => ?_) (fun q2 => ?_) | refine GE_condB rfl (fun q2 => ?_) (fun q2 => ?_)
    · skip
      refine GE_seq ?_
      refine GE_slots (L' := []) trivial ?_
      refine GE_plain (.ld 0 [] (.st 1 .nil)) rfl ?_
      refine GT_call0 rfl rfl rfl rfl rfl rfl rfl rfl rn_16 (fun w hw => C_Works) (GR_nil) ?_
      refine GT_st rfl rfl rfl rfl (V_assign rfl rfl) ?_
      refine GT_nil ?_
      refine GE_ret Tryd.func4 rfl (fun w hw => ⟨?_, hw.nil⟩)
      rfl
    · have hlen : s.length ≤ 300 := (by omega); have he : sErr s = 0 := (by omega); have hall := (sErr_zero.1 he).2
      refine GE_skip ?_
      refine GE_seq ?_
      refine GE_slots (L' := [(0, _), (1, _), (2, _), (3, _)]) ⟨rfl, rfl, rfl, rfl, trivial⟩ ?_
      refine GE_plain (.st 0 (.st 1 (.st 2 (.st 3 .nil)))) rfl ?_
      refine GT_st rfl rfl rfl rfl (V_move rfl rfl) ?_
      refine GT_st rfl rfl rfl rfl (V_convII rfl rfl (by rw [Tryd.underlying38]; rfl) Tryd.underlying2 (wrap_i64 (by omega))) ?_
      refine GT_st rfl rfl rfl rfl (V_rem rfl rfl rfl (by omega)) ?_
      refine GT_st rfl rfl rfl rfl (V_assign rfl rfl) ?_
      refine GT_nil ?_
      refine GE_seq ?_
      refine GE_slots (L' := [(0, _), (2, _), (3, _), (9, _)]) ⟨rfl, rfl, rfl, rfl, trivial⟩ ?_
      refine GE_plain (.st 0 (.st 1 (.st 2 (.st 3 (.st 4 (.st 5 .nil)))))) rfl ?_
      refine GT_st rfl rfl rfl rfl (V_move rfl rfl) ?_
      refine GT_st rfl rfl rfl rfl (V_move rfl rfl) ?_
      refine GT_st rfl rfl rfl rfl (V_convII rfl rfl (by rw [Tryd.underlying38]; rfl) Tryd.underlying2 (wrap_i64 (by omega))) ?_
      refine GT_st rfl rfl rfl rfl (V_add rfl rfl rfl (wrap_i64 (by omega))) ?_
      refine GT_st rfl rfl rfl rfl (V_min rfl rfl rfl) ?_
      refine GT_st rfl rfl rfl rfl (V_assign rfl rfl) ?_
      refine GT_nil ?_
      refine GE_seq ?_
      refine GE_slots (L' := [(0, _), (3, _), (9, _), (10, _)]) ⟨rfl, rfl, rfl, rfl, trivial⟩ ?_
      refine GE_plain (.st 0 (.st 1 (.st 2 (.st 3 .nil)))) rfl ?_
      refine GT_st rfl rfl rfl rfl (V_move rfl rfl) ?_
      refine GT_st rfl rfl rfl rfl (V_convII rfl rfl (by rw [Tryd.underlying5]; rfl) Tryd.underlying3 (wrap_i64 (by omega))) ?_
      refine GT_st rfl rfl rfl rfl (V_add rfl rfl rfl (wrap_i64 (by omega))) ?_
      refine GT_st rfl rfl rfl rfl (V_assign rfl rfl) ?_
      refine GT_nil ?_
      refine GE_seq ?_
      refine GE_slots (L' := [(0, _), (9, _), (10, _), (11, _)]) ⟨rfl, rfl, rfl, rfl, trivial⟩ ?_
      generalize lim.tmod 32768 = a at *; obtain ⟨b, hb⟩ : ∃ b, b = min 32767 (a + more) := ⟨_, rfl⟩; rw [← hb]; obtain ⟨n, hn⟩ : ∃ n, n = 1 + least := ⟨_, rfl⟩; rw [← hn]; have hxl := sil_len (s := s) (a := a) (least := 1); have hyl := sil_len (s := s) (a := b) (least := 1); have hzl := sil_len (s := s) (a := a) (least := n)
      refine GE_plain (.st 0 (.st 1 (.ld 2 [] (.st 3 (.st 4 (.st 5 (.st 6 (.st 7 .nil)))))))) rfl ?_
      refine GT_st rfl rfl rfl rfl (V_move rfl rfl) ?_
      refine GT_st rfl rfl rfl rfl (V_move rfl rfl) ?_
      refine GT_call rfl rfl rfl rfl rfl rfl rfl rfl rn_19 (fun w hw => C_SilOk (h.sh hw) he ha ⟨by omega, by omega⟩) (fun _ _ => GR_nil) (fun x hx1 => ?_)
      refine GT_st rfl rfl rfl rfl (V_move rfl rfl) ?_
      refine GT_st rfl rfl rfl rfl (V_extract rfl rfl rfl) ?_
      refine GT_st rfl rfl rfl rfl (V_extract rfl rfl rfl) ?_
      refine GT_st rfl rfl rfl rfl (V_assign rfl rfl) ?_
      refine GT_st rfl rfl rfl rfl (V_assign rfl rfl) ?_
      refine GT_nil ?_
      refine GE_seq ?_
      refine GE_slots (L' := [(0, _), (9, _), (10, _), (11, _), (12, _), (13, _)]) ⟨rfl, rfl, rfl, rfl, rfl, rfl, trivial⟩ ?_
      refine GE_plain (.st 0 (.st 1 (.ld 2 [] (.st 3 (.st 4 (.st 5 (.st 6 (.st 7 .nil)))))))) rfl ?_
      refine GT_st rfl rfl rfl rfl (V_move rfl rfl) ?_
      refine GT_st rfl rfl rfl rfl (V_move rfl rfl) ?_
      refine GT_call rfl rfl rfl rfl rfl rfl rfl rfl rn_19 (fun w hw => C_SilOk (h.sh hw) he ⟨by omega, by omega⟩ ⟨by omega, by omega⟩) (fun _ _ => GR_nil) (fun y hy => ?_)
      refine GT_st rfl rfl rfl rfl (V_move rfl rfl) ?_
      refine GT_st rfl rfl rfl rfl (V_extract rfl rfl rfl) ?_
      refine GT_st rfl rfl rfl rfl (V_extract rfl rfl rfl) ?_
      refine GT_st rfl rfl rfl rfl (V_assign rfl rfl) ?_
      refine GT_st rfl rfl rfl rfl (V_assign rfl rfl) ?_
      refine GT_nil ?_
      refine GE_seq ?_
      refine GE_slots (L' := [(0, _), (9, _), (11, _), (12, _), (13, _), (14, _), (15, _)]) ⟨rfl, rfl, rfl, rfl, rfl, rfl, rfl, trivial⟩ ?_
      refine GE_plain (.st 0 (.st 1 (.st 2 (.ld 3 [] (.st 4 (.st 5 (.st 6 (.st 7 (.st 8 .nil))))))))) rfl ?_
      refine GT_st rfl rfl rfl rfl (V_move rfl rfl) ?_
      refine GT_st rfl rfl rfl rfl (V_move rfl rfl) ?_
      refine GT_st rfl rfl rfl rfl (V_move rfl rfl) ?_
      refine GT_call rfl rfl rfl rfl rfl rfl rfl rfl rn_19 (fun w hw => C_SilOk (h.sh hw) he ha ⟨by omega, by omega⟩) (fun _ _ => GR_nil) (fun z hz => ?_)
      refine GT_st rfl rfl rfl rfl (V_move rfl rfl) ?_
      refine GT_st rfl rfl rfl rfl (V_extract rfl rfl rfl) ?_
      refine GT_st rfl rfl rfl rfl (V_extract rfl rfl rfl) ?_
      refine GT_st rfl rfl rfl rfl (V_assign rfl rfl) ?_
      refine GT_st rfl rfl rfl rfl (V_assign rfl rfl) ?_
      refine GT_nil ?_
      refine GE_seq ?_
      refine GE_seq ?_
      refine GE_slots (L' := [(0, _), (9, _), (11, _), (12, _), (13, _), (14, _), (15, _), (16, _), (17, _)]) ⟨rfl, rfl, rfl, rfl, rfl, rfl, rfl, rfl, rfl, trivial⟩ ?_
      refine GE_plain (.st 0 (.st 1 (.st 2 (.st 3 (.st 4 (.st 5 (.st 6 (.st 7 (.st 8 (.st 9 .nil)))))))))) rfl ?_
      refine GT_st rfl rfl rfl rfl (V_move rfl rfl) ?_
      refine GT_st rfl rfl rfl rfl (V_isF (V_neq rfl rfl rfl) (by decide)) ?_
      refine GT_st rfl rfl rfl rfl (V_move rfl rfl) ?_
      refine GT_st_g rfl rfl rfl rfl rfl rfl rfl (V_move rfl rfl) ?_
      refine GT_st_g rfl rfl rfl rfl rfl rfl rfl (V_isF (V_neq rfl rfl rfl) (by decide)) ?_
      refine GT_st rfl rfl rfl rfl (V_pick_f rfl rfl rfl) ?_
      refine GT_st rfl rfl rfl rfl (V_move rfl rfl) ?_
      refine GT_st_g rfl rfl rfl rfl rfl rfl rfl (V_move rfl rfl) ?_
      refine GT_st_g rfl rfl rfl rfl rfl rfl rfl (V_isF (V_neq rfl rfl rfl) (by decide)) ?_
      refine GT_st rfl rfl rfl rfl (V_pick_f rfl rfl rfl) ?_
      refine GT_nil ?_
      refine GE_cond_f rfl ?_
      refine GE_skip ?_
      refine GE_seq ?_
      refine GE_slots (L' := [(0, _), (9, _), (11, _), (12, _), (14, _), (16, _)]) ⟨rfl, rfl, rfl, rfl, rfl, rfl, trivial⟩ ?_
      refine GE_plain (.st 0 .nil) rfl ?_
      refine GT_st rfl rfl rfl rfl (V_assign rfl rfl) ?_
      refine GT_nil ?_
      refine GE_seq ?_
      refine GE_seq ?_
      refine GE_plain (.st 0 .nil) rfl ?_
      refine GT_st rfl rfl rfl rfl (V_assign rfl rfl) ?_
      refine GT_nil ?_
      refine GE_block ?_
      refine GE_to (GE_loop (ι := Nat × Nat) (fun u => s.length - u.1) (fun u => [(0, .slice A s.length c), (9, I a), (11, I n), (12, .slice x.1 (sil s a 1).length x.2.1), (14, .slice y.1 (sil s b 1).length y.2.1), (16, .slice z.1 (sil s a n).length z.2.1), (18, I u.2), (19, I u.1)]) (fun u => z.2.2 ++ (y.2.2 ++ x.2.2)) (fun u => u.1 ≤ s.length ∧ u.2 ≤ (sil s a 1).length ∧ ∀ j, j < u.2 → ((sil s a 1).getD j default).2 ≤ u.1) ?_ (0, 0) ?_) ⟨rfl, rfl, rfl, rfl, rfl, rfl, rfl, rfl, trivial⟩ (HS.chunk (HS.chunk HS.last))
      · rintro ⟨i, at'⟩ ⟨hi, hat, hlt⟩ ih; dsimp only at hi hat hlt ih ⊢
        refine GE_seq ?_
        refine GE_seq ?_
        refine GE_plain (.st 0 (.st 1 (.st 2 (.st 3 .nil)))) rfl ?_
        refine GT_st rfl rfl rfl rfl (V_move rfl rfl) ?_
        refine GT_st rfl rfl rfl rfl (V_move rfl rfl) ?_
        refine GT_st rfl rfl rfl rfl (V_len rfl Tryd.underlying22 rfl) ?_
        refine GT_st rfl rfl rfl rfl (V_lss rfl rfl rfl) ?_
        refine GT_nil ?_
        first | refine GE_condNot rfl (fun q3 => ?_) (fun q3 => ?_) | refine GE_cond rfl (fun q3 => ?_) (fun q3 => ?_) | refine GE_condNotB rfl (fun q3 => ?_) (fun q3 => ?_) | refine GE_condB rfl (fun q3 => ?_) (fun q3 => ?_)
        · have hil : i < s.length := (by omega)
          refine GE_skip ?_
          refine GE_seq ?_
          refine GE_block ?_
          refine GE_seq ?_
          refine GE_block ?_
          refine GE_to (GE_loop (ι := Nat) (fun at'' => (sil s a 1).length - at'') (fun at'' => [(0, .slice A s.length c), (9, I a), (11, I n), (12, .slice x.1 (sil s a 1).length x.2.1), (14, .slice y.1 (sil s b 1).length y.2.1), (16, .slice z.1 (sil s a n).length z.2.1), (18, I at''), (19, I i)]) (fun at'' => z.2.2 ++ (y.2.2 ++ x.2.2)) (fun at'' => at'' ≤ (sil s a 1).length ∧ ∀ j, j < at'' → ((sil s a 1).getD j default).2 ≤ i) ?_ at' ?_) ⟨rfl, rfl, rfl, rfl, rfl, rfl, rfl, rfl, trivial⟩ HS.all
          · rintro at'' ⟨hat2, hlt2⟩ ih2
            refine GE_seq ?_
            refine GE_seq ?_
            refine GE_plain (.st 0 (.st 1 (.st 2 (.st 3 (.st 4 (.st 5 (.st 6 (.st 7 (.st 8 (.st 9 (.st 10 (.st 11 (.st 12 .nil))))))))))))) rfl ?_
            refine GT_st rfl rfl rfl rfl (V_move rfl rfl) ?_
            refine GT_st rfl rfl rfl rfl (V_move rfl rfl) ?_
            refine GT_st rfl rfl rfl rfl (V_len rfl Tryd.underlying39 rfl) ?_
            refine GT_st rfl rfl rfl rfl (V_lss rfl rfl rfl) ?_
            refine GT_st rfl rfl rfl rfl (V_move rfl rfl) ?_
            first | refine GT_splitNot (d := 84) rfl (fun q4 => ?_) (fun q4 => ?_) | refine GT_split (d := 84) rfl (fun q4 => ?_) (fun q4 => ?_) | refine GT_splitNotB (d := 84) rfl (fun q4 => ?_) (fun q4 => ?_) | refine GT_splitB (d := 84) rfl (fun q4 => ?_) (fun q4 => ?_)
            · have hal : at'' < (sil s a 1).length := (by omega)
              refine GT_st_g rfl rfl rfl rfl rfl rfl rfl (V_move rfl rfl) ?_
              refine GT_st_g rfl rfl rfl rfl rfl rfl rfl (V_move rfl rfl) ?_
              refine GT_st_g rfl rfl rfl rfl rfl rfl rfl (V_index rfl rfl rfl Tryd.underlying39 sz_42 (k := at'') rfl hal (hx1.isSome hal)) ?_
              first | refine GT_st_g rfl rfl rfl rfl rfl rfl rfl (V_indexArr (kk := 1) rfl rfl rfl Tryd.underlying42 sz_3 rfl (by omega)) ?_ | refine GT_st_g rfl rfl rfl rfl rfl rfl rfl (V_indexArrA (kk := 1) rfl rfl rfl Tryd.underlying42 sz_3 rfl (by omega)) ?_
              refine GT_st_g rfl rfl rfl rfl rfl rfl rfl (V_load rfl rfl ag_3 (CellAt.own (j := 1) hx1 eIv_len hal rfl)) ?_
              refine GT_st_g rfl rfl rfl rfl rfl rfl rfl (V_move rfl rfl) ?_
              refine GT_st_g rfl rfl rfl rfl rfl rfl rfl (V_leq rfl rfl rfl) ?_
              refine GT_st rfl rfl rfl rfl (V_pick_t rfl rfl rfl) ?_
              refine GT_nil ?_
              first | refine GE_condNot rfl (fun q5 => ?_) (fun q5 => ?_) | refine GE_cond rfl (fun q5 => ?_) (fun q5 => ?_) | refine GE_condNotB rfl (fun q5 => ?_) (fun q5 => ?_) | refine GE_condB rfl (fun q5 => ?_) (fun q5 => ?_)
              · skip
                refine GE_skip ?_
                refine GE_block ?_
                refine GE_slots (L' := [(0, _), (9, _), (11, _), (12, _), (14, _), (16, _), (18, _), (19, _), (85, _), (86, _), (87, _), (88, _), (89, _), (90, _), (91, _)]) ⟨rfl, rfl, rfl, rfl, rfl, rfl, rfl, rfl, rfl, rfl, rfl, rfl, rfl, rfl, rfl, trivial⟩ ?_
                refine GE_plain (.st 0 (.st 1 (.ld 2 [] .nil))) rfl ?_
                refine GT_st rfl rfl rfl rfl (V_move rfl rfl) ?_
                refine GT_st rfl rfl rfl rfl (V_add rfl rfl rfl (wrap_i64 (by omega))) ?_
                refine GT_ldv rfl rfl rfl rfl rfl (V_assign rfl rfl) (GR_nil) ?_
                refine GT_nil ?_
                refine GE_inBlock ?_
                exact GE_to (ih2 (at'' + 1) ⟨by omega, fun j hj => by rcases Nat.lt_or_ge j at'' with r | r; exact hlt2 j r; rw [show j = at'' by omega]; omega⟩ (by omega)) ⟨rfl, rfl, rfl, rfl, rfl, rfl, rfl, rfl, trivial⟩ HS.all
              · skip
                refine GE_exit rfl ?_
                refine GE_seq ?_
                refine GE_slots (L' := [(0, _), (9, _), (11, _), (12, _), (14, _), (16, _), (18, _), (19, _), (85, _), (86, _), (87, _), (88, _), (89, _), (90, _), (91, _)]) ⟨rfl, rfl, rfl, rfl, rfl, rfl, rfl, rfl, rfl, rfl, rfl, rfl, rfl, rfl, rfl, trivial⟩ ?_
                have hqa := quiet_at (i := i) hlt2 (fun hal => by omega) hil; rw [quiet_iff] at hqa; have hbd := bd_of hall hil; unfold Sam.bd at hbd
                refine GE_plain (.st 0 (.st 1 (.st 2 (.st 3 (.st 4 (.st 5 (.st 6 (.st 7 (.st 8 (.st 9 (.st 10 (.st 11 (.st 12 (.st 13 .nil)))))))))))))) rfl ?_
                refine GT_st rfl rfl rfl rfl (V_move rfl rfl) ?_
                refine GT_st rfl rfl rfl rfl (V_move rfl rfl) ?_
                refine GT_st rfl rfl rfl rfl (V_len rfl Tryd.underlying39 rfl) ?_
                refine GT_st rfl rfl rfl rfl (V_lss rfl rfl rfl) ?_
                refine GT_st rfl rfl rfl rfl (V_move rfl rfl) ?_
                first | refine GT_splitNot (d := 99) rfl (fun q6 => ?_) (fun q6 => ?_) | refine GT_split (d := 99) rfl (fun q6 => ?_) (fun q6 => ?_) | refine GT_splitNotB (d := 99) rfl (fun q6 => ?_) (fun q6 => ?_) | refine GT_splitB (d := 99) rfl (fun q6 => ?_) (fun q6 => ?_)
                · have hal : at'' < (sil s a 1).length := (by omega)
                  refine GT_st_g rfl rfl rfl rfl rfl rfl rfl (V_move rfl rfl) ?_
                  refine GT_st_g rfl rfl rfl rfl rfl rfl rfl (V_move rfl rfl) ?_
                  refine GT_st_g rfl rfl rfl rfl rfl rfl rfl (V_index rfl rfl rfl Tryd.underlying39 sz_42 (k := at'') rfl hal (hx1.isSome hal)) ?_
                  first | refine GT_st_g rfl rfl rfl rfl rfl rfl rfl (V_indexArr (kk := 0) rfl rfl rfl Tryd.underlying42 sz_3 rfl (by omega)) ?_ | refine GT_st_g rfl rfl rfl rfl rfl rfl rfl (V_indexArrA (kk := 0) rfl rfl rfl Tryd.underlying42 sz_3 rfl (by omega)) ?_
                  refine GT_st_g rfl rfl rfl rfl rfl rfl rfl (V_load rfl rfl ag_3 (CellAt.own (j := 0) hx1 eIv_len hal rfl)) ?_
                  refine GT_st_g rfl rfl rfl rfl rfl rfl rfl (V_move rfl rfl) ?_
                  refine GT_st_g rfl rfl rfl rfl rfl rfl rfl (V_leq rfl rfl rfl) ?_
                  refine GT_st rfl rfl rfl rfl (V_pick_t rfl rfl rfl) ?_
                  refine GT_st rfl rfl rfl rfl (V_assign rfl rfl) ?_
                  refine GT_nil ?_
                  refine GE_seq ?_
                  refine GE_slots (L' := [(0, _), (9, _), (11, _), (12, _), (14, _), (16, _), (18, _), (19, _), (20, _), (85, _), (86, _), (87, _), (88, _), (89, _), (90, _), (91, _), (100, _), (101, _), (102, _), (103, _), (104, _), (105, _), (106, _)]) ⟨rfl, rfl, rfl, rfl, rfl, rfl, rfl, rfl, rfl, rfl, rfl, rfl, rfl, rfl, rfl, rfl, rfl, rfl, rfl, rfl, rfl, rfl, rfl, trivial⟩ ?_
                  refine GE_plain (.st 0 (.st 1 (.st 2 (.st 3 (.st 4 (.st 5 (.ld 6 [] (.st 7 (.st 8 (.st 9 (.st 10 (.st 11 (.st 12 (.st 13 (.st 14 (.ld 15 [] (.st 16 (.st 17 (.st 18 (.st 19 .nil)))))))))))))))))))) rfl ?_
                  refine GT_st rfl rfl rfl rfl (V_move rfl rfl) ?_
                  refine GT_st rfl rfl rfl rfl (V_move rfl rfl) ?_
                  refine GT_st rfl rfl rfl rfl (V_move rfl rfl) ?_
                  refine GT_st rfl rfl rfl rfl (V_index rfl rfl rfl Tryd.underlying22 sz_35 (k := i) rfl hil (h.isSome hil)) ?_
                  first | refine GT_st rfl rfl rfl rfl (V_field rfl rfl fo_35_0) ?_ | refine GT_st rfl rfl rfl rfl (V_fieldA rfl rfl fo_35_0) ?_
                  refine GT_st rfl rfl rfl rfl (V_load rfl rfl ag_2 (h.at0 noM hil rfl)) ?_
                  refine GT_call0 rfl rfl rfl rfl rfl rfl rfl rfl rn_18 (fun w hw => C_amount (by omega)) (GR_nil) ?_
                  refine GT_st rfl rfl rfl rfl (V_move rfl rfl) ?_
                  refine GT_st rfl rfl rfl rfl (V_leq rfl rfl rfl) ?_
                  refine GT_st rfl rfl rfl rfl (V_move rfl rfl) ?_
                  first | refine GT_splitNot (d := 117) rfl (fun q7 => ?_) (fun q7 => ?_) | refine GT_split (d := 117) rfl (fun q7 => ?_) (fun q7 => ?_) | refine GT_splitNotB (d := 117) rfl (fun q7 => ?_) (fun q7 => ?_) | refine GT_splitB (d := 117) rfl (fun q7 => ?_) (fun q7 => ?_)
                  · skip
                    refine GT_st_g rfl rfl rfl rfl rfl rfl rfl (V_move rfl rfl) ?_
                    refine GT_st_g rfl rfl rfl rfl rfl rfl rfl (V_move rfl rfl) ?_
                    refine GT_st_g rfl rfl rfl rfl rfl rfl rfl (V_index rfl rfl rfl Tryd.underlying22 sz_35 (k := i) rfl hil (h.isSome hil)) ?_
                    first | refine GT_st_g rfl rfl rfl rfl rfl rfl rfl (V_field rfl rfl fo_35_1) ?_ | refine GT_st_g rfl rfl rfl rfl rfl rfl rfl (V_fieldA rfl rfl fo_35_1) ?_
                    refine GT_st_g rfl rfl rfl rfl rfl rfl rfl (V_load rfl rfl ag_2 (h.at1 noM hil rfl)) ?_
                    refine GT_call0_g rfl rfl rfl rfl rfl rfl rfl rfl rfl rfl rfl rn_18 (fun w hw => C_amount (by omega)) (GR_nil) ?_
                    refine GT_st_g rfl rfl rfl rfl rfl rfl rfl (V_move rfl rfl) ?_
                    refine GT_st_g rfl rfl rfl rfl rfl rfl rfl (V_leq rfl rfl rfl) ?_
                    refine GT_st rfl rfl rfl rfl (V_pick_t rfl rfl rfl) ?_
                    refine GT_st rfl rfl rfl rfl (V_neqBB_same rfl rfl rfl Tryd.underlying4 (by refine Bool.eq_iff_iff.2 ?_; simp only [decide_eq_true_iff, Bool.false_eq_true, false_iff, iff_false] <;> omega)) ?_
                    refine GT_nil ?_
                    refine GE_cond_f rfl ?_
                    refine GE_skip ?_
                    refine GE_inBlock ?_
                    refine GE_slots (L' := [(0, _), (9, _), (11, _), (12, _), (14, _), (16, _), (18, _), (19, _), (85, _), (86, _), (87, _), (88, _), (89, _), (90, _), (91, _), (100, _), (101, _), (102, _), (103, _), (104, _), (105, _), (106, _), (118, _), (119, _), (120, _), (121, _), (122, _), (123, _), (124, _), (125, _)]) ⟨rfl, rfl, rfl, rfl, rfl, rfl, rfl, rfl, rfl, rfl, rfl, rfl, rfl, rfl, rfl, rfl, rfl, rfl, rfl, rfl, rfl, rfl, rfl, rfl, rfl, rfl, rfl, rfl, rfl, rfl, trivial⟩ ?_
                    refine GE_plain (.st 0 (.st 1 (.ld 2 [] .nil))) rfl ?_
                    refine GT_st rfl rfl rfl rfl (V_move rfl rfl) ?_
                    refine GT_st rfl rfl rfl rfl (V_add rfl rfl rfl (wrap_i64 (by omega))) ?_
                    refine GT_ldv rfl rfl rfl rfl rfl (V_assign rfl rfl) (GR_nil) ?_
                    refine GT_nil ?_
                    exact GE_to (ih (i + 1, at'') ⟨by dsimp only; omega, hat2, fun j hj => by have := hlt2 j hj; dsimp only; omega⟩ (by dsimp only; omega)) ⟨rfl, rfl, rfl, rfl, rfl, rfl, rfl, rfl, trivial⟩ (HS.chunk (HS.chunk HS.last))
                  · skip
                    refine GT_skip rfl rfl rfl rfl rfl (by decide) rfl rfl ?_
                    refine GT_skip rfl rfl rfl rfl rfl (by decide) rfl rfl ?_
                    refine GT_skip rfl rfl rfl rfl rfl (by decide) rfl rfl ?_
                    refine GT_skip rfl rfl rfl rfl rfl (by decide) rfl rfl ?_
                    refine GT_skip rfl rfl rfl rfl rfl (by decide) rfl rfl ?_
                    refine GT_skip_ld rfl rfl rfl rfl rfl (by decide) rfl rfl rfl (GR_nil) ?_
                    refine GT_skip rfl rfl rfl rfl rfl (by decide) rfl rfl ?_
                    refine GT_skip rfl rfl rfl rfl rfl (by decide) rfl rfl ?_
                    refine GT_st rfl rfl rfl rfl (V_pick_f rfl rfl rfl) ?_
                    refine GT_st rfl rfl rfl rfl (V_neqBB_same rfl rfl rfl Tryd.underlying4 (by refine Bool.eq_iff_iff.2 ?_; simp only [decide_eq_true_iff, Bool.false_eq_true, false_iff, iff_false] <;> omega)) ?_
                    refine GT_nil ?_
                    refine GE_cond_f rfl ?_
                    refine GE_skip ?_
                    refine GE_inBlock ?_
                    refine GE_slots (L' := [(0, _), (9, _), (11, _), (12, _), (14, _), (16, _), (18, _), (19, _), (85, _), (86, _), (87, _), (88, _), (89, _), (90, _), (91, _), (100, _), (101, _), (102, _), (103, _), (104, _), (105, _), (106, _), (118, _), (119, _), (120, _), (121, _), (122, _), (123, _), (124, _), (125, _)]) ⟨rfl, rfl, rfl, rfl, rfl, rfl, rfl, rfl, rfl, rfl, rfl, rfl, rfl, rfl, rfl, rfl, rfl, rfl, rfl, rfl, rfl, rfl, rfl, rfl, rfl, rfl, rfl, rfl, rfl, rfl, trivial⟩ ?_
                    refine GE_plain (.st 0 (.st 1 (.ld 2 [] .nil))) rfl ?_
                    refine GT_st rfl rfl rfl rfl (V_move rfl rfl) ?_
                    refine GT_st rfl rfl rfl rfl (V_add rfl rfl rfl (wrap_i64 (by omega))) ?_
                    refine GT_ldv rfl rfl rfl rfl rfl (V_assign rfl rfl) (GR_nil) ?_
                    refine GT_nil ?_
                    exact GE_to (ih (i + 1, at'') ⟨by dsimp only; omega, hat2, fun j hj => by have := hlt2 j hj; dsimp only; omega⟩ (by dsimp only; omega)) ⟨rfl, rfl, rfl, rfl, rfl, rfl, rfl, rfl, trivial⟩ (HS.chunk (HS.chunk HS.last))
                · skip
                  refine GT_skip rfl rfl rfl rfl rfl (by decide) rfl rfl ?_
                  refine GT_skip rfl rfl rfl rfl rfl (by decide) rfl rfl ?_
                  refine GT_skip rfl rfl rfl rfl rfl (by decide) rfl rfl ?_
                  refine GT_skip rfl rfl rfl rfl rfl (by decide) rfl rfl ?_
                  refine GT_skip rfl rfl rfl rfl rfl (by decide) rfl rfl ?_
                  refine GT_skip rfl rfl rfl rfl rfl (by decide) rfl rfl ?_
                  refine GT_skip rfl rfl rfl rfl rfl (by decide) rfl rfl ?_
                  refine GT_st rfl rfl rfl rfl (V_pick_f rfl rfl rfl) ?_
                  refine GT_st rfl rfl rfl rfl (V_assign rfl rfl) ?_
                  refine GT_nil ?_
                  refine GE_seq ?_
                  refine GE_slots (L' := [(0, _), (9, _), (11, _), (12, _), (14, _), (16, _), (18, _), (19, _), (20, _), (85, _), (86, _), (87, _), (88, _), (89, _), (90, _), (91, _), (100, _), (101, _), (102, _), (103, _), (104, _), (105, _), (106, _)]) ⟨rfl, rfl, rfl, rfl, rfl, rfl, rfl, rfl, rfl, rfl, rfl, rfl, rfl, rfl, rfl, rfl, rfl, rfl, rfl, rfl, rfl, rfl, rfl, trivial⟩ ?_
                  refine GE_plain (.st 0 (.st 1 (.st 2 (.st 3 (.st 4 (.st 5 (.ld 6 [] (.st 7 (.st 8 (.st 9 (.st 10 (.st 11 (.st 12 (.st 13 (.st 14 (.ld 15 [] (.st 16 (.st 17 (.st 18 (.st 19 .nil)))))))))))))))))))) rfl ?_
                  refine GT_st rfl rfl rfl rfl (V_move rfl rfl) ?_
                  refine GT_st rfl rfl rfl rfl (V_move rfl rfl) ?_
                  refine GT_st rfl rfl rfl rfl (V_move rfl rfl) ?_
                  refine GT_st rfl rfl rfl rfl (V_index rfl rfl rfl Tryd.underlying22 sz_35 (k := i) rfl hil (h.isSome hil)) ?_
                  first | refine GT_st rfl rfl rfl rfl (V_field rfl rfl fo_35_0) ?_ | refine GT_st rfl rfl rfl rfl (V_fieldA rfl rfl fo_35_0) ?_
                  refine GT_st rfl rfl rfl rfl (V_load rfl rfl ag_2 (h.at0 noM hil rfl)) ?_
                  refine GT_call0 rfl rfl rfl rfl rfl rfl rfl rfl rn_18 (fun w hw => C_amount (by omega)) (GR_nil) ?_
                  refine GT_st rfl rfl rfl rfl (V_move rfl rfl) ?_
                  refine GT_st rfl rfl rfl rfl (V_leq rfl rfl rfl) ?_
                  refine GT_st rfl rfl rfl rfl (V_move rfl rfl) ?_
                  first | refine GT_splitNot (d := 117) rfl (fun q7 => ?_) (fun q7 => ?_) | refine GT_split (d := 117) rfl (fun q7 => ?_) (fun q7 => ?_) | refine GT_splitNotB (d := 117) rfl (fun q7 => ?_) (fun q7 => ?_) | refine GT_splitB (d := 117) rfl (fun q7 => ?_) (fun q7 => ?_)
                  · skip
                    refine GT_st_g rfl rfl rfl rfl rfl rfl rfl (V_move rfl rfl) ?_
                    refine GT_st_g rfl rfl rfl rfl rfl rfl rfl (V_move rfl rfl) ?_
                    refine GT_st_g rfl rfl rfl rfl rfl rfl rfl (V_index rfl rfl rfl Tryd.underlying22 sz_35 (k := i) rfl hil (h.isSome hil)) ?_
                    first | refine GT_st_g rfl rfl rfl rfl rfl rfl rfl (V_field rfl rfl fo_35_1) ?_ | refine GT_st_g rfl rfl rfl rfl rfl rfl rfl (V_fieldA rfl rfl fo_35_1) ?_
                    refine GT_st_g rfl rfl rfl rfl rfl rfl rfl (V_load rfl rfl ag_2 (h.at1 noM hil rfl)) ?_
                    refine GT_call0_g rfl rfl rfl rfl rfl rfl rfl rfl rfl rfl rfl rn_18 (fun w hw => C_amount (by omega)) (GR_nil) ?_
                    refine GT_st_g rfl rfl rfl rfl rfl rfl rfl (V_move rfl rfl) ?_
                    refine GT_st_g rfl rfl rfl rfl rfl rfl rfl (V_leq rfl rfl rfl) ?_
                    refine GT_st rfl rfl rfl rfl (V_pick_t rfl rfl rfl) ?_
                    refine GT_st rfl rfl rfl rfl (V_neqBB_same rfl rfl rfl Tryd.underlying4 (by refine Bool.eq_iff_iff.2 ?_; simp only [decide_eq_true_iff, Bool.false_eq_true, false_iff, iff_false] <;> omega)) ?_
                    refine GT_nil ?_
                    refine GE_cond_f rfl ?_
                    refine GE_skip ?_
                    refine GE_inBlock ?_
                    refine GE_slots (L' := [(0, _), (9, _), (11, _), (12, _), (14, _), (16, _), (18, _), (19, _), (85, _), (86, _), (87, _), (88, _), (89, _), (90, _), (91, _), (100, _), (101, _), (102, _), (103, _), (104, _), (105, _), (106, _), (118, _), (119, _), (120, _), (121, _), (122, _), (123, _), (124, _), (125, _)]) ⟨rfl, rfl, rfl, rfl, rfl, rfl, rfl, rfl, rfl, rfl, rfl, rfl, rfl, rfl, rfl, rfl, rfl, rfl, rfl, rfl, rfl, rfl, rfl, rfl, rfl, rfl, rfl, rfl, rfl, rfl, trivial⟩ ?_
                    refine GE_plain (.st 0 (.st 1 (.ld 2 [] .nil))) rfl ?_
                    refine GT_st rfl rfl rfl rfl (V_move rfl rfl) ?_
                    refine GT_st rfl rfl rfl rfl (V_add rfl rfl rfl (wrap_i64 (by omega))) ?_
                    refine GT_ldv rfl rfl rfl rfl rfl (V_assign rfl rfl) (GR_nil) ?_
                    refine GT_nil ?_
                    exact GE_to (ih (i + 1, at'') ⟨by dsimp only; omega, hat2, fun j hj => by have := hlt2 j hj; dsimp only; omega⟩ (by dsimp only; omega)) ⟨rfl, rfl, rfl, rfl, rfl, rfl, rfl, rfl, trivial⟩ (HS.chunk (HS.chunk HS.last))
                  · skip
                    refine GT_skip rfl rfl rfl rfl rfl (by decide) rfl rfl ?_
                    refine GT_skip rfl rfl rfl rfl rfl (by decide) rfl rfl ?_
                    refine GT_skip rfl rfl rfl rfl rfl (by decide) rfl rfl ?_
                    refine GT_skip rfl rfl rfl rfl rfl (by decide) rfl rfl ?_
                    refine GT_skip rfl rfl rfl rfl rfl (by decide) rfl rfl ?_
                    refine GT_skip_ld rfl rfl rfl rfl rfl (by decide) rfl rfl rfl (GR_nil) ?_
                    refine GT_skip rfl rfl rfl rfl rfl (by decide) rfl rfl ?_
                    refine GT_skip rfl rfl rfl rfl rfl (by decide) rfl rfl ?_
                    refine GT_st rfl rfl rfl rfl (V_pick_f rfl rfl rfl) ?_
                    refine GT_st rfl rfl rfl rfl (V_neqBB_same rfl rfl rfl Tryd.underlying4 (by refine Bool.eq_iff_iff.2 ?_; simp only [decide_eq_true_iff, Bool.false_eq_true, false_iff, iff_false] <;> omega)) ?_
                    refine GT_nil ?_
                    refine GE_cond_f rfl ?_
                    refine GE_skip ?_
                    refine GE_inBlock ?_
                    refine GE_slots (L' := [(0, _), (9, _), (11, _), (12, _), (14, _), (16, _), (18, _), (19, _), (85, _), (86, _), (87, _), (88, _), (89, _), (90, _), (91, _), (100, _), (101, _), (102, _), (103, _), (104, _), (105, _), (106, _), (118, _), (119, _), (120, _), (121, _), (122, _), (123, _), (124, _), (125, _)]) ⟨rfl, rfl, rfl, rfl, rfl, rfl, rfl, rfl, rfl, rfl, rfl, rfl, rfl, rfl, rfl, rfl, rfl, rfl, rfl, rfl, rfl, rfl, rfl, rfl, rfl, rfl, rfl, rfl, rfl, rfl, trivial⟩ ?_
                    refine GE_plain (.st 0 (.st 1 (.ld 2 [] .nil))) rfl ?_
                    refine GT_st rfl rfl rfl rfl (V_move rfl rfl) ?_
                    refine GT_st rfl rfl rfl rfl (V_add rfl rfl rfl (wrap_i64 (by omega))) ?_
                    refine GT_ldv rfl rfl rfl rfl rfl (V_assign rfl rfl) (GR_nil) ?_
                    refine GT_nil ?_
                    exact GE_to (ih (i + 1, at'') ⟨by dsimp only; omega, hat2, fun j hj => by have := hlt2 j hj; dsimp only; omega⟩ (by dsimp only; omega)) ⟨rfl, rfl, rfl, rfl, rfl, rfl, rfl, rfl, trivial⟩ (HS.chunk (HS.chunk HS.last))
            · skip
              refine GT_skip rfl rfl rfl rfl rfl (by decide) rfl rfl ?_
              refine GT_skip rfl rfl rfl rfl rfl (by decide) rfl rfl ?_
              refine GT_skip rfl rfl rfl rfl rfl (by decide) rfl rfl ?_
              refine GT_skip rfl rfl rfl rfl rfl (by decide) rfl rfl ?_
              refine GT_skip rfl rfl rfl rfl rfl (by decide) rfl rfl ?_
              refine GT_skip rfl rfl rfl rfl rfl (by decide) rfl rfl ?_
              refine GT_skip rfl rfl rfl rfl rfl (by decide) rfl rfl ?_
              refine GT_st rfl rfl rfl rfl (V_pick_f rfl rfl rfl) ?_
              refine GT_nil ?_
              refine GE_cond_f rfl ?_
              refine GE_exit rfl ?_
              refine GE_seq ?_
              refine GE_slots (L' := [(0, _), (9, _), (11, _), (12, _), (14, _), (16, _), (18, _), (19, _), (85, _), (86, _), (87, _), (88, _), (89, _), (90, _), (91, _)]) ⟨rfl, rfl, rfl, rfl, rfl, rfl, rfl, rfl, rfl, rfl, rfl, rfl, rfl, rfl, rfl, trivial⟩ ?_
              have hqa := quiet_at (i := i) hlt2 (fun hal => by omega) hil; rw [quiet_iff] at hqa; have hbd := bd_of hall hil; unfold Sam.bd at hbd
              refine GE_plain (.st 0 (.st 1 (.st 2 (.st 3 (.st 4 (.st 5 (.st 6 (.st 7 (.st 8 (.st 9 (.st 10 (.st 11 (.st 12 (.st 13 .nil)))))))))))))) rfl ?_
              refine GT_st rfl rfl rfl rfl (V_move rfl rfl) ?_
              refine GT_st rfl rfl rfl rfl (V_move rfl rfl) ?_
              refine GT_st rfl rfl rfl rfl (V_len rfl Tryd.underlying39 rfl) ?_
              refine GT_st rfl rfl rfl rfl (V_lss rfl rfl rfl) ?_
              refine GT_st rfl rfl rfl rfl (V_move rfl rfl) ?_
              first | refine GT_splitNot (d := 99) rfl (fun q6 => ?_) (fun q6 => ?_) | refine GT_split (d := 99) rfl (fun q6 => ?_) (fun q6 => ?_) | refine GT_splitNotB (d := 99) rfl (fun q6 => ?_) (fun q6 => ?_) | refine GT_splitB (d := 99) rfl (fun q6 => ?_) (fun q6 => ?_)
              · have hal : at'' < (sil s a 1).length := (by omega)
                refine GT_st_g rfl rfl rfl rfl rfl rfl rfl (V_move rfl rfl) ?_
                refine GT_st_g rfl rfl rfl rfl rfl rfl rfl (V_move rfl rfl) ?_
                refine GT_st_g rfl rfl rfl rfl rfl rfl rfl (V_index rfl rfl rfl Tryd.underlying39 sz_42 (k := at'') rfl hal (hx1.isSome hal)) ?_
                first | refine GT_st_g rfl rfl rfl rfl rfl rfl rfl (V_indexArr (kk := 0) rfl rfl rfl Tryd.underlying42 sz_3 rfl (by omega)) ?_ | refine GT_st_g rfl rfl rfl rfl rfl rfl rfl (V_indexArrA (kk := 0) rfl rfl rfl Tryd.underlying42 sz_3 rfl (by omega)) ?_
                refine GT_st_g rfl rfl rfl rfl rfl rfl rfl (V_load rfl rfl ag_3 (CellAt.own (j := 0) hx1 eIv_len hal rfl)) ?_
                refine GT_st_g rfl rfl rfl rfl rfl rfl rfl (V_move rfl rfl) ?_
                refine GT_st_g rfl rfl rfl rfl rfl rfl rfl (V_leq rfl rfl rfl) ?_
                refine GT_st rfl rfl rfl rfl (V_pick_t rfl rfl rfl) ?_
                refine GT_st rfl rfl rfl rfl (V_assign rfl rfl) ?_
                refine GT_nil ?_
                refine GE_seq ?_
                refine GE_slots (L' := [(0, _), (9, _), (11, _), (12, _), (14, _), (16, _), (18, _), (19, _), (20, _), (85, _), (86, _), (87, _), (88, _), (89, _), (90, _), (91, _), (100, _), (101, _), (102, _), (103, _), (104, _), (105, _), (106, _)]) ⟨rfl, rfl, rfl, rfl, rfl, rfl, rfl, rfl, rfl, rfl, rfl, rfl, rfl, rfl, rfl, rfl, rfl, rfl, rfl, rfl, rfl, rfl, rfl, trivial⟩ ?_
                refine GE_plain (.st 0 (.st 1 (.st 2 (.st 3 (.st 4 (.st 5 (.ld 6 [] (.st 7 (.st 8 (.st 9 (.st 10 (.st 11 (.st 12 (.st 13 (.st 14 (.ld 15 [] (.st 16 (.st 17 (.st 18 (.st 19 .nil)))))))))))))))))))) rfl ?_
                refine GT_st rfl rfl rfl rfl (V_move rfl rfl) ?_
                refine GT_st rfl rfl rfl rfl (V_move rfl rfl) ?_
                refine GT_st rfl rfl rfl rfl (V_move rfl rfl) ?_
                refine GT_st rfl rfl rfl rfl (V_index rfl rfl rfl Tryd.underlying22 sz_35 (k := i) rfl hil (h.isSome hil)) ?_
                first | refine GT_st rfl rfl rfl rfl (V_field rfl rfl fo_35_0) ?_ | refine GT_st rfl rfl rfl rfl (V_fieldA rfl rfl fo_35_0) ?_
                refine GT_st rfl rfl rfl rfl (V_load rfl rfl ag_2 (h.at0 noM hil rfl)) ?_
                refine GT_call0 rfl rfl rfl rfl rfl rfl rfl rfl rn_18 (fun w hw => C_amount (by omega)) (GR_nil) ?_
                refine GT_st rfl rfl rfl rfl (V_move rfl rfl) ?_
                refine GT_st rfl rfl rfl rfl (V_leq rfl rfl rfl) ?_
                refine GT_st rfl rfl rfl rfl (V_move rfl rfl) ?_
                first | refine GT_splitNot (d := 117) rfl (fun q7 => ?_) (fun q7 => ?_) | refine GT_split (d := 117) rfl (fun q7 => ?_) (fun q7 => ?_) | refine GT_splitNotB (d := 117) rfl (fun q7 => ?_) (fun q7 => ?_) | refine GT_splitB (d := 117) rfl (fun q7 => ?_) (fun q7 => ?_)
                · skip
                  refine GT_st_g rfl rfl rfl rfl rfl rfl rfl (V_move rfl rfl) ?_
                  refine GT_st_g rfl rfl rfl rfl rfl rfl rfl (V_move rfl rfl) ?_
                  refine GT_st_g rfl rfl rfl rfl rfl rfl rfl (V_index rfl rfl rfl Tryd.underlying22 sz_35 (k := i) rfl hil (h.isSome hil)) ?_
                  first | refine GT_st_g rfl rfl rfl rfl rfl rfl rfl (V_field rfl rfl fo_35_1) ?_ | refine GT_st_g rfl rfl rfl rfl rfl rfl rfl (V_fieldA rfl rfl fo_35_1) ?_
                  refine GT_st_g rfl rfl rfl rfl rfl rfl rfl (V_load rfl rfl ag_2 (h.at1 noM hil rfl)) ?_
                  refine GT_call0_g rfl rfl rfl rfl rfl rfl rfl rfl rfl rfl rfl rn_18 (fun w hw => C_amount (by omega)) (GR_nil) ?_
                  refine GT_st_g rfl rfl rfl rfl rfl rfl rfl (V_move rfl rfl) ?_
                  refine GT_st_g rfl rfl rfl rfl rfl rfl rfl (V_leq rfl rfl rfl) ?_
                  refine GT_st rfl rfl rfl rfl (V_pick_t rfl rfl rfl) ?_
                  refine GT_st rfl rfl rfl rfl (V_neqBB_same rfl rfl rfl Tryd.underlying4 (by refine Bool.eq_iff_iff.2 ?_; simp only [decide_eq_true_iff, Bool.false_eq_true, false_iff, iff_false] <;> omega)) ?_
                  refine GT_nil ?_
                  refine GE_cond_f rfl ?_
                  refine GE_skip ?_
                  refine GE_inBlock ?_
                  refine GE_slots (L' := [(0, _), (9, _), (11, _), (12, _), (14, _), (16, _), (18, _), (19, _), (85, _), (86, _), (87, _), (88, _), (89, _), (90, _), (91, _), (100, _), (101, _), (102, _), (103, _), (104, _), (105, _), (106, _), (118, _), (119, _), (120, _), (121, _), (122, _), (123, _), (124, _), (125, _)]) ⟨rfl, rfl, rfl, rfl, rfl, rfl, rfl, rfl, rfl, rfl, rfl, rfl, rfl, rfl, rfl, rfl, rfl, rfl, rfl, rfl, rfl, rfl, rfl, rfl, rfl, rfl, rfl, rfl, rfl, rfl, trivial⟩ ?_
                  refine GE_plain (.st 0 (.st 1 (.ld 2 [] .nil))) rfl ?_
                  refine GT_st rfl rfl rfl rfl (V_move rfl rfl) ?_
                  refine GT_st rfl rfl rfl rfl (V_add rfl rfl rfl (wrap_i64 (by omega))) ?_
                  refine GT_ldv rfl rfl rfl rfl rfl (V_assign rfl rfl) (GR_nil) ?_
                  refine GT_nil ?_
                  exact GE_to (ih (i + 1, at'') ⟨by dsimp only; omega, hat2, fun j hj => by have := hlt2 j hj; dsimp only; omega⟩ (by dsimp only; omega)) ⟨rfl, rfl, rfl, rfl, rfl, rfl, rfl, rfl, trivial⟩ (HS.chunk (HS.chunk HS.last))
                · skip
                  refine GT_skip rfl rfl rfl rfl rfl (by decide) rfl rfl ?_
                  refine GT_skip rfl rfl rfl rfl rfl (by decide) rfl rfl ?_
                  refine GT_skip rfl rfl rfl rfl rfl (by decide) rfl rfl ?_
                  refine GT_skip rfl rfl rfl rfl rfl (by decide) rfl rfl ?_
                  refine GT_skip rfl rfl rfl rfl rfl (by decide) rfl rfl ?_
                  refine GT_skip_ld rfl rfl rfl rfl rfl (by decide) rfl rfl rfl (GR_nil) ?_
                  refine GT_skip rfl rfl rfl rfl rfl (by decide) rfl rfl ?_
                  refine GT_skip rfl rfl rfl rfl rfl (by decide) rfl rfl ?_
                  refine GT_st rfl rfl rfl rfl (V_pick_f rfl rfl rfl) ?_
                  refine GT_st rfl rfl rfl rfl (V_neqBB_same rfl rfl rfl Tryd.underlying4 (by refine Bool.eq_iff_iff.2 ?_; simp only [decide_eq_true_iff, Bool.false_eq_true, false_iff, iff_false] <;> omega)) ?_
                  refine GT_nil ?_
                  refine GE_cond_f rfl ?_
                  refine GE_skip ?_
                  refine GE_inBlock ?_
                  refine GE_slots (L' := [(0, _), (9, _), (11, _), (12, _), (14, _), (16, _), (18, _), (19, _), (85, _), (86, _), (87, _), (88, _), (89, _), (90, _), (91, _), (100, _), (101, _), (102, _), (103, _), (104, _), (105, _), (106, _), (118, _), (119, _), (120, _), (121, _), (122, _), (123, _), (124, _), (125, _)]) ⟨rfl, rfl, rfl, rfl, rfl, rfl, rfl, rfl, rfl, rfl, rfl, rfl, rfl, rfl, rfl, rfl, rfl, rfl, rfl, rfl, rfl, rfl, rfl, rfl, rfl, rfl, rfl, rfl, rfl, rfl, trivial⟩ ?_
                  refine GE_plain (.st 0 (.st 1 (.ld 2 [] .nil))) rfl ?_
                  refine GT_st rfl rfl rfl rfl (V_move rfl rfl) ?_
                  refine GT_st rfl rfl rfl rfl (V_add rfl rfl rfl (wrap_i64 (by omega))) ?_
                  refine GT_ldv rfl rfl rfl rfl rfl (V_assign rfl rfl) (GR_nil) ?_
                  refine GT_nil ?_
                  exact GE_to (ih (i + 1, at'') ⟨by dsimp only; omega, hat2, fun j hj => by have := hlt2 j hj; dsimp only; omega⟩ (by dsimp only; omega)) ⟨rfl, rfl, rfl, rfl, rfl, rfl, rfl, rfl, trivial⟩ (HS.chunk (HS.chunk HS.last))
              · skip
                refine GT_skip rfl rfl rfl rfl rfl (by decide) rfl rfl ?_
                refine GT_skip rfl rfl rfl rfl rfl (by decide) rfl rfl ?_
                refine GT_skip rfl rfl rfl rfl rfl (by decide) rfl rfl ?_
                refine GT_skip rfl rfl rfl rfl rfl (by decide) rfl rfl ?_
                refine GT_skip rfl rfl rfl rfl rfl (by decide) rfl rfl ?_
                refine GT_skip rfl rfl rfl rfl rfl (by decide) rfl rfl ?_
                refine GT_skip rfl rfl rfl rfl rfl (by decide) rfl rfl ?_
                refine GT_st rfl rfl rfl rfl (V_pick_f rfl rfl rfl) ?_
                refine GT_st rfl rfl rfl rfl (V_assign rfl rfl) ?_
                refine GT_nil ?_
                refine GE_seq ?_
                refine GE_slots (L' := [(0, _), (9, _), (11, _), (12, _), (14, _), (16, _), (18, _), (19, _), (20, _), (85, _), (86, _), (87, _), (88, _), (89, _), (90, _), (91, _), (100, _), (101, _), (102, _), (103, _), (104, _), (105, _), (106, _)]) ⟨rfl, rfl, rfl, rfl, rfl, rfl, rfl, rfl, rfl, rfl, rfl, rfl, rfl, rfl, rfl, rfl, rfl, rfl, rfl, rfl, rfl, rfl, rfl, trivial⟩ ?_
                refine GE_plain (.st 0 (.st 1 (.st 2 (.st 3 (.st 4 (.st 5 (.ld 6 [] (.st 7 (.st 8 (.st 9 (.st 10 (.st 11 (.st 12 (.st 13 (.st 14 (.ld 15 [] (.st 16 (.st 17 (.st 18 (.st 19 .nil)))))))))))))))))))) rfl ?_
                refine GT_st rfl rfl rfl rfl (V_move rfl rfl) ?_
                refine GT_st rfl rfl rfl rfl (V_move rfl rfl) ?_
                refine GT_st rfl rfl rfl rfl (V_move rfl rfl) ?_
                refine GT_st rfl rfl rfl rfl (V_index rfl rfl rfl Tryd.underlying22 sz_35 (k := i) rfl hil (h.isSome hil)) ?_
                first | refine GT_st rfl rfl rfl rfl (V_field rfl rfl fo_35_0) ?_ | refine GT_st rfl rfl rfl rfl (V_fieldA rfl rfl fo_35_0) ?_
                refine GT_st rfl rfl rfl rfl (V_load rfl rfl ag_2 (h.at0 noM hil rfl)) ?_
                refine GT_call0 rfl rfl rfl rfl rfl rfl rfl rfl rn_18 (fun w hw => C_amount (by omega)) (GR_nil) ?_
                refine GT_st rfl rfl rfl rfl (V_move rfl rfl) ?_
                refine GT_st rfl rfl rfl rfl (V_leq rfl rfl rfl) ?_
                refine GT_st rfl rfl rfl rfl (V_move rfl rfl) ?_
                first | refine GT_splitNot (d := 117) rfl (fun q7 => ?_) (fun q7 => ?_) | refine GT_split (d := 117) rfl (fun q7 => ?_) (fun q7 => ?_) | refine GT_splitNotB (d := 117) rfl (fun q7 => ?_) (fun q7 => ?_) | refine GT_splitB (d := 117) rfl (fun q7 => ?_) (fun q7 => ?_)
                · skip
                  refine GT_st_g rfl rfl rfl rfl rfl rfl rfl (V_move rfl rfl) ?_
                  refine GT_st_g rfl rfl rfl rfl rfl rfl rfl (V_move rfl rfl) ?_
                  refine GT_st_g rfl rfl rfl rfl rfl rfl rfl (V_index rfl rfl rfl Tryd.underlying22 sz_35 (k := i) rfl hil (h.isSome hil)) ?_
                  first | refine GT_st_g rfl rfl rfl rfl rfl rfl rfl (V_field rfl rfl fo_35_1) ?_ | refine GT_st_g rfl rfl rfl rfl rfl rfl rfl (V_fieldA rfl rfl fo_35_1) ?_
                  refine GT_st_g rfl rfl rfl rfl rfl rfl rfl (V_load rfl rfl ag_2 (h.at1 noM hil rfl)) ?_
                  refine GT_call0_g rfl rfl rfl rfl rfl rfl rfl rfl rfl rfl rfl rn_18 (fun w hw => C_amount (by omega)) (GR_nil) ?_
                  refine GT_st_g rfl rfl rfl rfl rfl rfl rfl (V_move rfl rfl) ?_
                  refine GT_st_g rfl rfl rfl rfl rfl rfl rfl (V_leq rfl rfl rfl) ?_
                  refine GT_st rfl rfl rfl rfl (V_pick_t rfl rfl rfl) ?_
                  refine GT_st rfl rfl rfl rfl (V_neqBB_same rfl rfl rfl Tryd.underlying4 (by refine Bool.eq_iff_iff.2 ?_; simp only [decide_eq_true_iff, Bool.false_eq_true, false_iff, iff_false] <;> omega)) ?_
                  refine GT_nil ?_
                  refine GE_cond_f rfl ?_
                  refine GE_skip ?_
                  refine GE_inBlock ?_
                  refine GE_slots (L' := [(0, _), (9, _), (11, _), (12, _), (14, _), (16, _), (18, _), (19, _), (85, _), (86, _), (87, _), (88, _), (89, _), (90, _), (91, _), (100, _), (101, _), (102, _), (103, _), (104, _), (105, _), (106, _), (118, _), (119, _), (120, _), (121, _), (122, _), (123, _), (124, _), (125, _)]) ⟨rfl, rfl, rfl, rfl, rfl, rfl, rfl, rfl, rfl, rfl, rfl, rfl, rfl, rfl, rfl, rfl, rfl, rfl, rfl, rfl, rfl, rfl, rfl, rfl, rfl, rfl, rfl, rfl, rfl, rfl, trivial⟩ ?_
                  refine GE_plain (.st 0 (.st 1 (.ld 2 [] .nil))) rfl ?_
                  refine GT_st rfl rfl rfl rfl (V_move rfl rfl) ?_
                  refine GT_st rfl rfl rfl rfl (V_add rfl rfl rfl (wrap_i64 (by omega))) ?_
                  refine GT_ldv rfl rfl rfl rfl rfl (V_assign rfl rfl) (GR_nil) ?_
                  refine GT_nil ?_
                  exact GE_to (ih (i + 1, at'') ⟨by dsimp only; omega, hat2, fun j hj => by have := hlt2 j hj; dsimp only; omega⟩ (by dsimp only; omega)) ⟨rfl, rfl, rfl, rfl, rfl, rfl, rfl, rfl, trivial⟩ (HS.chunk (HS.chunk HS.last))
                · skip
                  refine GT_skip rfl rfl rfl rfl rfl (by decide) rfl rfl ?_
                  refine GT_skip rfl rfl rfl rfl rfl (by decide) rfl rfl ?_
                  refine GT_skip rfl rfl rfl rfl rfl (by decide) rfl rfl ?_
                  refine GT_skip rfl rfl rfl rfl rfl (by decide) rfl rfl ?_
                  refine GT_skip rfl rfl rfl rfl rfl (by decide) rfl rfl ?_
                  refine GT_skip_ld rfl rfl rfl rfl rfl (by decide) rfl rfl rfl (GR_nil) ?_
                  refine GT_skip rfl rfl rfl rfl rfl (by decide) rfl rfl ?_
                  refine GT_skip rfl rfl rfl rfl rfl (by decide) rfl rfl ?_
                  refine GT_st rfl rfl rfl rfl (V_pick_f rfl rfl rfl) ?_
                  refine GT_st rfl rfl rfl rfl (V_neqBB_same rfl rfl rfl Tryd.underlying4 (by refine Bool.eq_iff_iff.2 ?_; simp only [decide_eq_true_iff, Bool.false_eq_true, false_iff, iff_false] <;> omega)) ?_
                  refine GT_nil ?_
                  refine GE_cond_f rfl ?_
                  refine GE_skip ?_
                  refine GE_inBlock ?_
                  refine GE_slots (L' := [(0, _), (9, _), (11, _), (12, _), (14, _), (16, _), (18, _), (19, _), (85, _), (86, _), (87, _), (88, _), (89, _), (90, _), (91, _), (100, _), (101, _), (102, _), (103, _), (104, _), (105, _), (106, _), (118, _), (119, _), (120, _), (121, _), (122, _), (123, _), (124, _), (125, _)]) ⟨rfl, rfl, rfl, rfl, rfl, rfl, rfl, rfl, rfl, rfl, rfl, rfl, rfl, rfl, rfl, rfl, rfl, rfl, rfl, rfl, rfl, rfl, rfl, rfl, rfl, rfl, rfl, rfl, rfl, rfl, trivial⟩ ?_
                  refine GE_plain (.st 0 (.st 1 (.ld 2 [] .nil))) rfl ?_
                  refine GT_st rfl rfl rfl rfl (V_move rfl rfl) ?_
                  refine GT_st rfl rfl rfl rfl (V_add rfl rfl rfl (wrap_i64 (by omega))) ?_
                  refine GT_ldv rfl rfl rfl rfl rfl (V_assign rfl rfl) (GR_nil) ?_
                  refine GT_nil ?_
                  exact GE_to (ih (i + 1, at'') ⟨by dsimp only; omega, hat2, fun j hj => by have := hlt2 j hj; dsimp only; omega⟩ (by dsimp only; omega)) ⟨rfl, rfl, rfl, rfl, rfl, rfl, rfl, rfl, trivial⟩ (HS.chunk (HS.chunk HS.last))
          · exact ⟨hat, hlt⟩
        · skip
          refine GE_exit rfl ?_
          refine GE_seq ?_
          refine GE_slots (L' := [(0, _), (11, _), (12, _), (14, _), (16, _)]) ⟨rfl, rfl, rfl, rfl, rfl, trivial⟩ ?_
          refine GE_plain (.st 0 .nil) rfl ?_
          refine GT_st rfl rfl rfl rfl (V_assign rfl rfl) ?_
          refine GT_nil ?_
          refine GE_seq ?_
          refine GE_seq ?_
          refine GE_plain (.st 0 .nil) rfl ?_
          refine GT_st rfl rfl rfl rfl (V_assign rfl rfl) ?_
          refine GT_nil ?_
          refine GE_block ?_
          refine GE_to (GE_loop (ι := Nat) (fun i => (sil s a 1).length - i) (fun i => [(0, .slice A s.length c), (11, I n), (12, .slice x.1 (sil s a 1).length x.2.1), (14, .slice y.1 (sil s b 1).length y.2.1), (16, .slice z.1 (sil s a n).length z.2.1), (21, I (((sil s a 1).take i).filter fun u => decide (n ≤ u.2 - u.1)).length), (22, I i)]) (fun i => z.2.2 ++ (y.2.2 ++ x.2.2)) (fun i => i ≤ (sil s a 1).length) ?_ 0 ?_) ⟨rfl, rfl, rfl, rfl, rfl, rfl, rfl, trivial⟩ HS.all
          · intro i hi ih; have hzf := sil_filter s a (n := n) (by omega)
            refine GE_seq ?_
            refine GE_seq ?_
            refine GE_plain (.st 0 (.st 1 (.st 2 (.st 3 .nil)))) rfl ?_
            refine GT_st rfl rfl rfl rfl (V_move rfl rfl) ?_
            refine GT_st rfl rfl rfl rfl (V_move rfl rfl) ?_
            refine GT_st rfl rfl rfl rfl (V_len rfl Tryd.underlying39 rfl) ?_
            refine GT_st rfl rfl rfl rfl (V_lss rfl rfl rfl) ?_
            refine GT_nil ?_
            first | refine GE_condNot rfl (fun q8 => ?_) (fun q8 => ?_) | refine GE_cond rfl (fun q8 => ?_) (fun q8 => ?_) | refine GE_condNotB rfl (fun q8 => ?_) (fun q8 => ?_) | refine GE_condB rfl (fun q8 => ?_) (fun q8 => ?_)
            · have hil : i < (sil s a 1).length := (by omega); have hE := (sil_ok s a).each i hil; have hfa := filter_at (f := fun u : Iv => decide (n ≤ u.2 - u.1)) hil
              refine GE_skip ?_
              refine GE_seq ?_
              refine GE_block ?_
              refine GE_cut (ι := Unit) (fun _ => [(0, .slice A s.length c), (11, I n), (12, .slice x.1 (sil s a 1).length x.2.1), (14, .slice y.1 (sil s b 1).length y.2.1), (16, .slice z.1 (sil s a n).length z.2.1), (21, I (((sil s a 1).take i).filter fun u => decide (n ≤ u.2 - u.1)).length), (22, I i)]) (fun _ => z.2.2 ++ (y.2.2 ++ x.2.2)) (fun _ => True) ?_ (fun hk => ?_)
              · intro _ _
                refine GE_seq ?_
                refine GE_plain (.st 0 .nil) rfl ?_
                refine GT_st rfl rfl rfl rfl (V_assign rfl rfl) ?_
                refine GT_nil ?_
                refine GE_seq ?_
                refine GE_seq ?_
                refine GE_plain (.st 0 .nil) rfl ?_
                refine GT_st rfl rfl rfl rfl (V_assign rfl rfl) ?_
                refine GT_nil ?_
                refine GE_block ?_
                refine GE_to (GE_loop (ι := Nat × Bool) (fun u => (sil s b 1).length - u.1) (fun u => [(0, .slice A s.length c), (11, I n), (12, .slice x.1 (sil s a 1).length x.2.1), (14, .slice y.1 (sil s b 1).length y.2.1), (16, .slice z.1 (sil s a n).length z.2.1), (21, I (((sil s a 1).take i).filter fun u => decide (n ≤ u.2 - u.1)).length), (22, I i), (23, .bool u.2), (24, I u.1)]) (fun u => z.2.2 ++ (y.2.2 ++ x.2.2)) (fun u => u.1 ≤ (sil s b 1).length ∧ ∀ j, j < u.1 → ((sil s b 1).getD j default).1 ≤ ((sil s a 1).getD i default).1 → ((sil s a 1).getD i default).2 ≤ ((sil s b 1).getD j default).2 → u.2 = true) ?_ (0, false) ?_) ⟨rfl, rfl, rfl, rfl, rfl, rfl, rfl, rfl, rfl, trivial⟩ HS.all
                · rintro ⟨j, fd⟩ ⟨hj, hfd⟩ ih2; dsimp only at hj hfd ih2 ⊢
                  refine GE_seq ?_
                  refine GE_seq ?_
                  refine GE_plain (.st 0 (.st 1 (.st 2 (.st 3 .nil)))) rfl ?_
                  refine GT_st rfl rfl rfl rfl (V_move rfl rfl) ?_
                  refine GT_st rfl rfl rfl rfl (V_move rfl rfl) ?_
                  refine GT_st rfl rfl rfl rfl (V_len rfl Tryd.underlying39 rfl) ?_
                  refine GT_st rfl rfl rfl rfl (V_lss rfl rfl rfl) ?_
                  refine GT_nil ?_
                  first | refine GE_condNot rfl (fun q10 => ?_) (fun q10 => ?_) | refine GE_cond rfl (fun q10 => ?_) (fun q10 => ?_) | refine GE_condNotB rfl (fun q10 => ?_) (fun q10 => ?_) | refine GE_condB rfl (fun q10 => ?_) (fun q10 => ?_)
                  · have hjl : j < (sil s b 1).length := (by omega)
                    refine GE_skip ?_
                    refine GE_seq ?_
                    refine GE_block ?_
                    refine GE_slots (L' := [(0, _), (11, _), (12, _), (14, _), (16, _), (21, _), (22, _), (23, _), (24, _)]) ⟨rfl, rfl, rfl, rfl, rfl, rfl, rfl, rfl, rfl, trivial⟩ ?_
                    refine GE_drawn (.st 0 (.st 1 (.st 2 (.st 3 (.st 4 (.st 5 (.st 6 (.st 7 (.st 8 (.st 9 (.st 10 (.st 11 (.st 12 (.st 13 (.st 14 (.st 15 (.st 16 (.st 17 (.st 18 (.st 19 (.st 20 (.st 21 (.st 22 (.st 23 (.st 24 (.st 25 (.st 26 (.ld 27 [] .nil)))))))))))))))))))))))))))) [27] (by decide +kernel) ?_
                    refine GT_st rfl rfl rfl rfl (V_move rfl rfl) ?_
                    refine GT_st rfl rfl rfl rfl (V_move rfl rfl) ?_
                    first | refine GT_splitNot (d := 188) rfl (fun q11 => ?_) (fun q11 => ?_) | refine GT_split (d := 188) rfl (fun q11 => ?_) (fun q11 => ?_) | refine GT_splitNotB (d := 188) rfl (fun q11 => ?_) (fun q11 => ?_) | refine GT_splitB (d := 188) rfl (fun q11 => ?_) (fun q11 => ?_)
                    · skip
                      refine GT_skip rfl rfl rfl rfl rfl (by decide) rfl rfl ?_
                      refine GT_skip rfl rfl rfl rfl rfl (by decide) rfl rfl ?_
                      refine GT_skip rfl rfl rfl rfl rfl (by decide) rfl rfl ?_
                      refine GT_skip rfl rfl rfl rfl rfl (by decide) rfl rfl ?_
                      refine GT_skip rfl rfl rfl rfl rfl (by decide) rfl rfl ?_
                      refine GT_skip rfl rfl rfl rfl rfl (by decide) rfl rfl ?_
                      refine GT_skip rfl rfl rfl rfl rfl (by decide) rfl rfl ?_
                      refine GT_skip rfl rfl rfl rfl rfl (by decide) rfl rfl ?_
                      refine GT_skip rfl rfl rfl rfl rfl (by decide) rfl rfl ?_
                      refine GT_skip rfl rfl rfl rfl rfl (by decide) rfl rfl ?_
                      refine GT_skip rfl rfl rfl rfl rfl (by decide) rfl rfl ?_
                      refine GT_skip rfl rfl rfl rfl rfl (by decide) rfl rfl ?_
                      refine GT_skip rfl rfl rfl rfl rfl (by decide) rfl rfl ?_
                      refine GT_skip rfl rfl rfl rfl rfl (by decide) rfl rfl ?_
                      refine GT_skip rfl rfl rfl rfl rfl (by decide) rfl rfl ?_
                      refine GT_skip rfl rfl rfl rfl rfl (by decide) rfl rfl ?_
                      refine GT_skip rfl rfl rfl rfl rfl (by decide) rfl rfl ?_
                      refine GT_skip rfl rfl rfl rfl rfl (by decide) rfl rfl ?_
                      refine GT_skip rfl rfl rfl rfl rfl (by decide) rfl rfl ?_
                      refine GT_skip rfl rfl rfl rfl rfl (by decide) rfl rfl ?_
                      refine GT_skip rfl rfl rfl rfl rfl (by decide) rfl rfl ?_
                      refine GT_skip rfl rfl rfl rfl rfl (by decide) rfl rfl ?_
                      refine GT_skip rfl rfl rfl rfl rfl (by decide) rfl rfl ?_
                      refine GT_skip rfl rfl rfl rfl rfl (by decide) rfl rfl ?_
                      refine GT_st rfl rfl rfl rfl (V_pick_t rfl rfl rfl) ?_
                      refine GT_ldv rfl rfl rfl rfl rfl (V_assign rfl rfl) (GR_nil) ?_
                      refine GT_nil ?_
                      refine GE_inBlock ?_
                      refine GE_plain (.st 0 (.st 1 (.ld 2 [] .nil))) rfl ?_
                      refine GT_st rfl rfl rfl rfl (V_move rfl rfl) ?_
                      refine GT_st rfl rfl rfl rfl (V_add rfl rfl rfl (wrap_i64 (by omega))) ?_
                      refine GT_ldv rfl rfl rfl rfl rfl (V_assign rfl rfl) (GR_nil) ?_
                      refine GT_nil ?_
                      first
                        | exact GE_to (ih2 (j + 1, true) ⟨by dsimp only; omega, fun _ _ _ _ => rfl⟩ (by dsimp only; omega)) ⟨rfl, rfl, rfl, rfl, rfl, rfl, rfl, rfl, rfl, trivial⟩ HS.all
                        | exact GE_to (ih2 (j + 1, decide (((sil s a 1).getD i default).2 ≤ ((sil s b 1).getD j default).2)) ⟨by dsimp only; omega, fun t ht h4 h5 => by dsimp only at ht ⊢; rcases Nat.lt_or_ge t j with r | r; have := hfd t r h4 h5; rw [q11] at this; cases this; rw [show j = t by omega]; exact decide_eq_true h5⟩ (by dsimp only; omega)) ⟨rfl, rfl, rfl, rfl, rfl, rfl, rfl, rfl, rfl, trivial⟩ HS.all
                        | exact GE_to (ih2 (j + 1, false) ⟨by dsimp only; omega, fun t ht h4 h5 => by dsimp only at ht ⊢; rcases Nat.lt_or_ge t j with r | r; have := hfd t r h4 h5; rw [q11] at this; cases this; rw [show t = j by omega] at h4; exact absurd h4 q12⟩ (by dsimp only; omega)) ⟨rfl, rfl, rfl, rfl, rfl, rfl, rfl, rfl, rfl, trivial⟩ HS.all
                    · skip
                      refine GT_st_g rfl rfl rfl rfl rfl rfl rfl (V_move rfl rfl) ?_
                      refine GT_st_g rfl rfl rfl rfl rfl rfl rfl (V_move rfl rfl) ?_
                      refine GT_st_g rfl rfl rfl rfl rfl rfl rfl (V_index rfl rfl rfl Tryd.underlying39 sz_42 (k := j) rfl hjl (hy.isSome hjl)) ?_
                      first | refine GT_st_g rfl rfl rfl rfl rfl rfl rfl (V_indexArr (kk := 0) rfl rfl rfl Tryd.underlying42 sz_3 rfl (by omega)) ?_ | refine GT_st_g rfl rfl rfl rfl rfl rfl rfl (V_indexArrA (kk := 0) rfl rfl rfl Tryd.underlying42 sz_3 rfl (by omega)) ?_
                      refine GT_st_g rfl rfl rfl rfl rfl rfl rfl (V_load rfl rfl ag_3 (CellAt.own (j := 0) hy eIv_len hjl rfl)) ?_
                      refine GT_st_g rfl rfl rfl rfl rfl rfl rfl (V_move rfl rfl) ?_
                      refine GT_st_g rfl rfl rfl rfl rfl rfl rfl (V_move rfl rfl) ?_
                      refine GT_st_g rfl rfl rfl rfl rfl rfl rfl (V_index rfl rfl rfl Tryd.underlying39 sz_42 (k := i) rfl hil (hx1.isSome hil)) ?_
                      first | refine GT_st_g rfl rfl rfl rfl rfl rfl rfl (V_indexArr (kk := 0) rfl rfl rfl Tryd.underlying42 sz_3 rfl (by omega)) ?_ | refine GT_st_g rfl rfl rfl rfl rfl rfl rfl (V_indexArrA (kk := 0) rfl rfl rfl Tryd.underlying42 sz_3 rfl (by omega)) ?_
                      refine GT_st_g rfl rfl rfl rfl rfl rfl rfl (V_load rfl rfl ag_3 (CellAt.own (j := 0) hx1 eIv_len hil rfl)) ?_
                      refine GT_st_g rfl rfl rfl rfl rfl rfl rfl (V_leq rfl rfl rfl) ?_
                      refine GT_st_g rfl rfl rfl rfl rfl rfl rfl (V_move rfl rfl) ?_
                      first | refine GT_splitNot (d := 200) rfl (fun q12 => ?_) (fun q12 => ?_) | refine GT_split (d := 200) rfl (fun q12 => ?_) (fun q12 => ?_) | refine GT_splitNotB (d := 200) rfl (fun q12 => ?_) (fun q12 => ?_) | refine GT_splitB (d := 200) rfl (fun q12 => ?_) (fun q12 => ?_)
                      · skip
                        refine GT_st_g rfl rfl rfl rfl rfl rfl rfl (V_move rfl rfl) ?_
                        refine GT_st_g rfl rfl rfl rfl rfl rfl rfl (V_move rfl rfl) ?_
                        refine GT_st_g rfl rfl rfl rfl rfl rfl rfl (V_index rfl rfl rfl Tryd.underlying39 sz_42 (k := i) rfl hil (hx1.isSome hil)) ?_
                        first | refine GT_st_g rfl rfl rfl rfl rfl rfl rfl (V_indexArr (kk := 1) rfl rfl rfl Tryd.underlying42 sz_3 rfl (by omega)) ?_ | refine GT_st_g rfl rfl rfl rfl rfl rfl rfl (V_indexArrA (kk := 1) rfl rfl rfl Tryd.underlying42 sz_3 rfl (by omega)) ?_
                        refine GT_st_g rfl rfl rfl rfl rfl rfl rfl (V_load rfl rfl ag_3 (CellAt.own (j := 1) hx1 eIv_len hil rfl)) ?_
                        refine GT_st_g rfl rfl rfl rfl rfl rfl rfl (V_move rfl rfl) ?_
                        refine GT_st_g rfl rfl rfl rfl rfl rfl rfl (V_move rfl rfl) ?_
                        refine GT_st_g rfl rfl rfl rfl rfl rfl rfl (V_index rfl rfl rfl Tryd.underlying39 sz_42 (k := j) rfl hjl (hy.isSome hjl)) ?_
                        first | refine GT_st_g rfl rfl rfl rfl rfl rfl rfl (V_indexArr (kk := 1) rfl rfl rfl Tryd.underlying42 sz_3 rfl (by omega)) ?_ | refine GT_st_g rfl rfl rfl rfl rfl rfl rfl (V_indexArrA (kk := 1) rfl rfl rfl Tryd.underlying42 sz_3 rfl (by omega)) ?_
                        refine GT_st_g rfl rfl rfl rfl rfl rfl rfl (V_load rfl rfl ag_3 (CellAt.own (j := 1) hy eIv_len hjl rfl)) ?_
                        refine GT_st_g rfl rfl rfl rfl rfl rfl rfl (V_leq rfl rfl rfl) ?_
                        refine GT_st_g rfl rfl rfl rfl rfl rfl rfl (V_pick_t rfl rfl rfl) ?_
                        refine GT_st rfl rfl rfl rfl (V_pick_f rfl rfl rfl) ?_
                        refine GT_ldv rfl rfl rfl rfl rfl (V_assign rfl rfl) (GR_nil) ?_
                        refine GT_nil ?_
                        refine GE_inBlock ?_
                        refine GE_plain (.st 0 (.st 1 (.ld 2 [] .nil))) rfl ?_
                        refine GT_st rfl rfl rfl rfl (V_move rfl rfl) ?_
                        refine GT_st rfl rfl rfl rfl (V_add rfl rfl rfl (wrap_i64 (by omega))) ?_
                        refine GT_ldv rfl rfl rfl rfl rfl (V_assign rfl rfl) (GR_nil) ?_
                        refine GT_nil ?_
                        first
                          | exact GE_to (ih2 (j + 1, true) ⟨by dsimp only; omega, fun _ _ _ _ => rfl⟩ (by dsimp only; omega)) ⟨rfl, rfl, rfl, rfl, rfl, rfl, rfl, rfl, rfl, trivial⟩ HS.all
                          | exact GE_to (ih2 (j + 1, decide (((sil s a 1).getD i default).2 ≤ ((sil s b 1).getD j default).2)) ⟨by dsimp only; omega, fun t ht h4 h5 => by dsimp only at ht ⊢; rcases Nat.lt_or_ge t j with r | r; have := hfd t r h4 h5; rw [q11] at this; cases this; rw [show j = t by omega]; exact decide_eq_true h5⟩ (by dsimp only; omega)) ⟨rfl, rfl, rfl, rfl, rfl, rfl, rfl, rfl, rfl, trivial⟩ HS.all
                          | exact GE_to (ih2 (j + 1, false) ⟨by dsimp only; omega, fun t ht h4 h5 => by dsimp only at ht ⊢; rcases Nat.lt_or_ge t j with r | r; have := hfd t r h4 h5; rw [q11] at this; cases this; rw [show t = j by omega] at h4; exact absurd h4 q12⟩ (by dsimp only; omega)) ⟨rfl, rfl, rfl, rfl, rfl, rfl, rfl, rfl, rfl, trivial⟩ HS.all
                      · skip
                        refine GT_skip rfl rfl rfl rfl rfl (by decide) rfl rfl ?_
                        refine GT_skip rfl rfl rfl rfl rfl (by decide) rfl rfl ?_
                        refine GT_skip rfl rfl rfl rfl rfl (by decide) rfl rfl ?_
                        refine GT_skip rfl rfl rfl rfl rfl (by decide) rfl rfl ?_
                        refine GT_skip rfl rfl rfl rfl rfl (by decide) rfl rfl ?_
                        refine GT_skip rfl rfl rfl rfl rfl (by decide) rfl rfl ?_
                        refine GT_skip rfl rfl rfl rfl rfl (by decide) rfl rfl ?_
                        refine GT_skip rfl rfl rfl rfl rfl (by decide) rfl rfl ?_
                        refine GT_skip rfl rfl rfl rfl rfl (by decide) rfl rfl ?_
                        refine GT_skip rfl rfl rfl rfl rfl (by decide) rfl rfl ?_
                        refine GT_skip rfl rfl rfl rfl rfl (by decide) rfl rfl ?_
                        refine GT_st_g rfl rfl rfl rfl rfl rfl rfl (V_pick_f rfl rfl rfl) ?_
                        refine GT_st rfl rfl rfl rfl (V_pick_f rfl rfl rfl) ?_
                        refine GT_ldv rfl rfl rfl rfl rfl (V_assign rfl rfl) (GR_nil) ?_
                        refine GT_nil ?_
                        refine GE_inBlock ?_
                        refine GE_plain (.st 0 (.st 1 (.ld 2 [] .nil))) rfl ?_
                        refine GT_st rfl rfl rfl rfl (V_move rfl rfl) ?_
                        refine GT_st rfl rfl rfl rfl (V_add rfl rfl rfl (wrap_i64 (by omega))) ?_
                        refine GT_ldv rfl rfl rfl rfl rfl (V_assign rfl rfl) (GR_nil) ?_
                        refine GT_nil ?_
                        first
                          | exact GE_to (ih2 (j + 1, true) ⟨by dsimp only; omega, fun _ _ _ _ => rfl⟩ (by dsimp only; omega)) ⟨rfl, rfl, rfl, rfl, rfl, rfl, rfl, rfl, rfl, trivial⟩ HS.all
                          | exact GE_to (ih2 (j + 1, decide (((sil s a 1).getD i default).2 ≤ ((sil s b 1).getD j default).2)) ⟨by dsimp only; omega, fun t ht h4 h5 => by dsimp only at ht ⊢; rcases Nat.lt_or_ge t j with r | r; have := hfd t r h4 h5; rw [q11] at this; cases this; rw [show j = t by omega]; exact decide_eq_true h5⟩ (by dsimp only; omega)) ⟨rfl, rfl, rfl, rfl, rfl, rfl, rfl, rfl, rfl, trivial⟩ HS.all
                          | exact GE_to (ih2 (j + 1, false) ⟨by dsimp only; omega, fun t ht h4 h5 => by dsimp only at ht ⊢; rcases Nat.lt_or_ge t j with r | r; have := hfd t r h4 h5; rw [q11] at this; cases this; rw [show t = j by omega] at h4; exact absurd h4 q12⟩ (by dsimp only; omega)) ⟨rfl, rfl, rfl, rfl, rfl, rfl, rfl, rfl, rfl, trivial⟩ HS.all
                  · obtain rfl : j = (sil s b 1).length := (by omega); obtain rfl : fd = true := (by obtain ⟨k, k1, k2, k3⟩ := sil_in (s := s) (a := a) (b := b) (by omega) hil; exact hfd k k1 k2 k3)
                    refine GE_exit rfl ?_
                    refine GE_seq ?_
                    refine GE_seq ?_
                    refine GE_slots (L' := [(0, _), (11, _), (12, _), (14, _), (16, _), (21, _), (22, _), (23, _)]) ⟨rfl, rfl, rfl, rfl, rfl, rfl, rfl, rfl, trivial⟩ ?_
                    refine GE_plain (.st 0 (.st 1 .nil)) rfl ?_
                    refine GT_st rfl rfl rfl rfl (V_move rfl rfl) ?_
                    first | refine GT_st rfl rfl rfl rfl (V_not rfl rfl) ?_ | refine GT_st rfl rfl rfl rfl (V_notB rfl rfl) ?_
                    refine GT_nil ?_
                    refine GE_cond_f rfl ?_
                    refine GE_skip ?_
                    refine GE_seq ?_
                    refine GE_drawn (.st 0 (.st 1 (.st 2 (.st 3 (.st 4 (.st 5 (.st 6 (.st 7 (.st 8 (.st 9 (.st 10 (.st 11 (.st 12 .nil))))))))))))) [] (by decide +kernel) ?_
                    refine GT_st rfl rfl rfl rfl (V_move rfl rfl) ?_
                    refine GT_st rfl rfl rfl rfl (V_move rfl rfl) ?_
                    refine GT_st rfl rfl rfl rfl (V_index rfl rfl rfl Tryd.underlying39 sz_42 (k := i) rfl hil (hx1.isSome hil)) ?_
                    first | refine GT_st rfl rfl rfl rfl (V_indexArr (kk := 1) rfl rfl rfl Tryd.underlying42 sz_3 rfl (by omega)) ?_ | refine GT_st rfl rfl rfl rfl (V_indexArrA (kk := 1) rfl rfl rfl Tryd.underlying42 sz_3 rfl (by omega)) ?_
                    refine GT_st rfl rfl rfl rfl (V_load rfl rfl ag_3 (CellAt.own (j := 1) hx1 eIv_len hil rfl)) ?_
                    refine GT_st rfl rfl rfl rfl (V_move rfl rfl) ?_
                    refine GT_st rfl rfl rfl rfl (V_move rfl rfl) ?_
                    refine GT_st rfl rfl rfl rfl (V_index rfl rfl rfl Tryd.underlying39 sz_42 (k := i) rfl hil (hx1.isSome hil)) ?_
                    first | refine GT_st rfl rfl rfl rfl (V_indexArr (kk := 0) rfl rfl rfl Tryd.underlying42 sz_3 rfl (by omega)) ?_ | refine GT_st rfl rfl rfl rfl (V_indexArrA (kk := 0) rfl rfl rfl Tryd.underlying42 sz_3 rfl (by omega)) ?_
                    refine GT_st rfl rfl rfl rfl (V_load rfl rfl ag_3 (CellAt.own (j := 0) hx1 eIv_len hil rfl)) ?_
                    refine GT_st rfl rfl rfl rfl (V_sub rfl rfl rfl (wrap_i64 (by omega))) ?_
                    refine GT_st rfl rfl rfl rfl (V_move rfl rfl) ?_
                    refine GT_st rfl rfl rfl rfl (V_geq rfl rfl rfl) ?_
                    refine GT_nil ?_
                    first | refine GE_condNot rfl (fun q13 => ?_) (fun q13 => ?_) | refine GE_cond rfl (fun q13 => ?_) (fun q13 => ?_) | refine GE_condNotB rfl (fun q13 => ?_) (fun q13 => ?_) | refine GE_condB rfl (fun q13 => ?_) (fun q13 => ?_)
                    · obtain ⟨hk, hv, hp⟩ := hfa.1 (decide_eq_true (by omega)); rw [← hzf] at hk hv
                      refine GE_seq ?_
                      refine GE_seq ?_
                      refine GE_slots (L' := [(0, _), (11, _), (12, _), (14, _), (16, _), (21, _), (22, _)]) ⟨rfl, rfl, rfl, rfl, rfl, rfl, rfl, trivial⟩ ?_
                      refine GE_drawn (.st 0 (.st 1 (.st 2 (.st 3 (.st 4 (.st 5 (.st 6 (.st 7 (.st 8 (.st 9 (.st 10 (.st 11 (.st 12 (.st 13 (.st 14 .nil))))))))))))))) [] (by decide +kernel) ?_
                      refine GT_st rfl rfl rfl rfl (V_move rfl rfl) ?_
                      refine GT_st rfl rfl rfl rfl (V_move rfl rfl) ?_
                      refine GT_st rfl rfl rfl rfl (V_len rfl Tryd.underlying39 rfl) ?_
                      refine GT_st rfl rfl rfl rfl (V_isF (V_geq rfl rfl rfl) (by omega)) ?_
                      refine GT_st rfl rfl rfl rfl (V_move rfl rfl) ?_
                      refine GT_st_g rfl rfl rfl rfl rfl rfl rfl (V_move rfl rfl) ?_
                      refine GT_st_g rfl rfl rfl rfl rfl rfl rfl (V_move rfl rfl) ?_
                      refine GT_st_g rfl rfl rfl rfl rfl rfl rfl (V_index rfl rfl rfl Tryd.underlying39 sz_42 (k := (((sil s a 1).take i).filter fun u => decide (n ≤ u.2 - u.1)).length) rfl hk (hz.isSome hk)) ?_
                      refine GT_st_g rfl rfl rfl rfl rfl rfl rfl (V_loadN (vs := [_, _]) rfl rfl ag_42 sz_42 rfl (CellsAt.ownE hz eIv_len hk (by rw [hv]; rfl))) ?_
                      refine GT_st_g rfl rfl rfl rfl rfl rfl rfl (V_move rfl rfl) ?_
                      refine GT_st_g rfl rfl rfl rfl rfl rfl rfl (V_move rfl rfl) ?_
                      refine GT_st_g rfl rfl rfl rfl rfl rfl rfl (V_index rfl rfl rfl Tryd.underlying39 sz_42 (k := i) rfl hil (hx1.isSome hil)) ?_
                      refine GT_st_g rfl rfl rfl rfl rfl rfl rfl (V_loadN (vs := [_, _]) rfl rfl ag_42 sz_42 rfl (CellsAt.ownE hx1 eIv_len hil rfl)) ?_
                      refine GT_st_g rfl rfl rfl rfl rfl rfl rfl (V_neqArr2 (a := ((sil s a 1).getD i default).1) (b := ((sil s a 1).getD i default).2) (c := ((sil s a 1).getD i default).1) (f := ((sil s a 1).getD i default).2) rfl rfl rfl Tryd.underlying42 Tryd.underlying3 sz_3 eg_42) ?_
                      refine GT_st rfl rfl rfl rfl (V_pick_f rfl rfl rfl) ?_
                      refine GT_nil ?_
                      first | refine GE_condNot rfl (fun q14 => ?_) (fun q14 => ?_) | refine GE_cond rfl (fun q14 => ?_) (fun q14 => ?_) | refine GE_condNotB rfl (fun q14 => ?_) (fun q14 => ?_) | refine GE_condB rfl (fun q14 => ?_) (fun q14 => ?_)
                      · simp at q14
                      · skip
                        refine GE_skip ?_
                        refine GE_slots (L' := [(0, _), (11, _), (12, _), (14, _), (16, _), (21, _), (22, _), (234, _), (235, _), (236, _), (237, _), (238, _), (239, _), (240, _), (241, _), (242, _)]) ⟨rfl, rfl, rfl, rfl, rfl, rfl, rfl, rfl, rfl, rfl, rfl, rfl, rfl, rfl, rfl, rfl, trivial⟩ ?_
                        refine GE_plain (.st 0 (.st 1 (.ld 2 [] .nil))) rfl ?_
                        refine GT_st rfl rfl rfl rfl (V_move rfl rfl) ?_
                        refine GT_st rfl rfl rfl rfl (V_add rfl rfl rfl (wrap_i64 (by omega))) ?_
                        refine GT_ldv rfl rfl rfl rfl rfl (V_assign rfl rfl) (GR_nil) ?_
                        refine GT_nil ?_
                        refine GE_inBlock ?_
                        refine GE_plain (.st 0 (.st 1 (.ld 2 [] .nil))) rfl ?_
                        refine GT_st rfl rfl rfl rfl (V_move rfl rfl) ?_
                        refine GT_st rfl rfl rfl rfl (V_add rfl rfl rfl (wrap_i64 (by omega))) ?_
                        refine GT_ldv rfl rfl rfl rfl rfl (V_assign rfl rfl) (GR_nil) ?_
                        refine GT_nil ?_
                        first
                          | exact GE_to (ih (i + 1) (by omega) (by omega)) ⟨rfl, rfl, rfl, rfl, rfl, lookI rfl (by rw [hp]; rfl), rfl, trivial⟩ HS.all
                          | exact GE_to (ih (i + 1) (by omega) (by omega)) ⟨rfl, rfl, rfl, rfl, rfl, lookI rfl (by rw [hp]), rfl, trivial⟩ HS.all
                    · have hp := hfa.2 (decide_eq_false (by omega))
                      refine GE_skip ?_
                      refine GE_inBlock ?_
                      refine GE_slots (L' := [(0, _), (11, _), (12, _), (14, _), (16, _), (21, _), (22, _)]) ⟨rfl, rfl, rfl, rfl, rfl, rfl, rfl, trivial⟩ ?_
                      refine GE_plain (.st 0 (.st 1 (.ld 2 [] .nil))) rfl ?_
                      refine GT_st rfl rfl rfl rfl (V_move rfl rfl) ?_
                      refine GT_st rfl rfl rfl rfl (V_add rfl rfl rfl (wrap_i64 (by omega))) ?_
                      refine GT_ldv rfl rfl rfl rfl rfl (V_assign rfl rfl) (GR_nil) ?_
                      refine GT_nil ?_
                      first
                        | exact GE_to (ih (i + 1) (by omega) (by omega)) ⟨rfl, rfl, rfl, rfl, rfl, lookI rfl (by rw [hp]; rfl), rfl, trivial⟩ HS.all
                        | exact GE_to (ih (i + 1) (by omega) (by omega)) ⟨rfl, rfl, rfl, rfl, rfl, lookI rfl (by rw [hp]), rfl, trivial⟩ HS.all
                · exact ⟨Nat.zero_le _, fun i hi => absurd hi (Nat.not_lt_zero _)⟩
              · skip
                refine GE_seq ?_
                refine GE_slots (L' := [(0, _), (11, _), (12, _), (14, _), (16, _), (21, _), (22, _)]) ⟨rfl, rfl, rfl, rfl, rfl, rfl, rfl, trivial⟩ ?_
                refine GE_drawn (.st 0 (.st 1 (.st 2 (.st 3 (.st 4 (.st 5 (.st 6 (.st 7 (.st 8 (.st 9 (.st 10 (.st 11 (.st 12 (.st 13 (.st 14 (.st 15 (.st 16 (.st 17 (.st 18 (.st 19 (.st 20 (.st 21 (.st 22 (.st 23 (.st 24 (.st 25 (.st 26 (.st 27 (.st 28 (.st 29 (.st 30 (.st 31 (.st 32 (.st 33 (.st 34 (.st 35 (.st 36 (.st 37 (.st 38 (.st 39 (.st 40 (.st 41 (.st 42 (.st 43 (.st 44 (.st 45 (.st 46 .nil))))))))))))))))))))))))))))))))))))))))))))))) [] (by decide +kernel) ?_
                refine GT_st rfl rfl rfl rfl (V_move rfl rfl) ?_
                refine GT_st rfl rfl rfl rfl (V_move rfl rfl) ?_
                refine GT_st rfl rfl rfl rfl (V_index rfl rfl rfl Tryd.underlying39 sz_42 (k := i) rfl hil (hx1.isSome hil)) ?_
                first | refine GT_st rfl rfl rfl rfl (V_indexArr (kk := 0) rfl rfl rfl Tryd.underlying42 sz_3 rfl (by omega)) ?_ | refine GT_st rfl rfl rfl rfl (V_indexArrA (kk := 0) rfl rfl rfl Tryd.underlying42 sz_3 rfl (by omega)) ?_
                refine GT_st rfl rfl rfl rfl (V_load rfl rfl ag_3 (CellAt.own (j := 0) hx1 eIv_len hil rfl)) ?_
                refine GT_st rfl rfl rfl rfl (V_isF (V_lss rfl rfl rfl) (by omega)) ?_
                refine GT_st rfl rfl rfl rfl (V_move rfl rfl) ?_
                refine GT_st_g rfl rfl rfl rfl rfl rfl rfl (V_move rfl rfl) ?_
                refine GT_st_g rfl rfl rfl rfl rfl rfl rfl (V_move rfl rfl) ?_
                refine GT_st_g rfl rfl rfl rfl rfl rfl rfl (V_index rfl rfl rfl Tryd.underlying39 sz_42 (k := i) rfl hil (hx1.isSome hil)) ?_
                first | refine GT_st_g rfl rfl rfl rfl rfl rfl rfl (V_indexArr (kk := 1) rfl rfl rfl Tryd.underlying42 sz_3 rfl (by omega)) ?_ | refine GT_st_g rfl rfl rfl rfl rfl rfl rfl (V_indexArrA (kk := 1) rfl rfl rfl Tryd.underlying42 sz_3 rfl (by omega)) ?_
                refine GT_st_g rfl rfl rfl rfl rfl rfl rfl (V_load rfl rfl ag_3 (CellAt.own (j := 1) hx1 eIv_len hil rfl)) ?_
                refine GT_st_g rfl rfl rfl rfl rfl rfl rfl (V_move rfl rfl) ?_
                refine GT_st_g rfl rfl rfl rfl rfl rfl rfl (V_len rfl Tryd.underlying22 rfl) ?_
                refine GT_st_g rfl rfl rfl rfl rfl rfl rfl (V_isF (V_gtr rfl rfl rfl) (by omega)) ?_
                refine GT_st rfl rfl rfl rfl (V_pick_f rfl rfl rfl) ?_
                refine GT_st rfl rfl rfl rfl (V_move rfl rfl) ?_
                refine GT_st_g rfl rfl rfl rfl rfl rfl rfl (V_move rfl rfl) ?_
                refine GT_st_g rfl rfl rfl rfl rfl rfl rfl (V_move rfl rfl) ?_
                refine GT_st_g rfl rfl rfl rfl rfl rfl rfl (V_index rfl rfl rfl Tryd.underlying39 sz_42 (k := i) rfl hil (hx1.isSome hil)) ?_
                first | refine GT_st_g rfl rfl rfl rfl rfl rfl rfl (V_indexArr (kk := 0) rfl rfl rfl Tryd.underlying42 sz_3 rfl (by omega)) ?_ | refine GT_st_g rfl rfl rfl rfl rfl rfl rfl (V_indexArrA (kk := 0) rfl rfl rfl Tryd.underlying42 sz_3 rfl (by omega)) ?_
                refine GT_st_g rfl rfl rfl rfl rfl rfl rfl (V_load rfl rfl ag_3 (CellAt.own (j := 0) hx1 eIv_len hil rfl)) ?_
                refine GT_st_g rfl rfl rfl rfl rfl rfl rfl (V_move rfl rfl) ?_
                refine GT_st_g rfl rfl rfl rfl rfl rfl rfl (V_move rfl rfl) ?_
                refine GT_st_g rfl rfl rfl rfl rfl rfl rfl (V_index rfl rfl rfl Tryd.underlying39 sz_42 (k := i) rfl hil (hx1.isSome hil)) ?_
                first | refine GT_st_g rfl rfl rfl rfl rfl rfl rfl (V_indexArr (kk := 1) rfl rfl rfl Tryd.underlying42 sz_3 rfl (by omega)) ?_ | refine GT_st_g rfl rfl rfl rfl rfl rfl rfl (V_indexArrA (kk := 1) rfl rfl rfl Tryd.underlying42 sz_3 rfl (by omega)) ?_
                refine GT_st_g rfl rfl rfl rfl rfl rfl rfl (V_load rfl rfl ag_3 (CellAt.own (j := 1) hx1 eIv_len hil rfl)) ?_
                refine GT_st_g rfl rfl rfl rfl rfl rfl rfl (V_isF (V_geq rfl rfl rfl) (by omega)) ?_
                refine GT_st rfl rfl rfl rfl (V_pick_f rfl rfl rfl) ?_
                refine GT_st rfl rfl rfl rfl (V_move rfl rfl) ?_
                refine GT_st_g rfl rfl rfl rfl rfl rfl rfl (V_move rfl rfl) ?_
                refine GT_st_g rfl rfl rfl rfl rfl rfl rfl (V_gtr rfl rfl rfl) ?_
                refine GT_st_g rfl rfl rfl rfl rfl rfl rfl (V_move rfl rfl) ?_
                first | refine GT_splitNot (d := 166) rfl (fun q9 => ?_) (fun q9 => ?_) | refine GT_split (d := 166) rfl (fun q9 => ?_) (fun q9 => ?_) | refine GT_splitNotB (d := 166) rfl (fun q9 => ?_) (fun q9 => ?_) | refine GT_splitB (d := 166) rfl (fun q9 => ?_) (fun q9 => ?_)
                · have hap := (sil_ok s a).apart (i - 1) i (by omega) hil
                  refine GT_st_g rfl rfl rfl rfl rfl rfl rfl (V_move rfl rfl) ?_
                  refine GT_st_g rfl rfl rfl rfl rfl rfl rfl (V_move rfl rfl) ?_
                  refine GT_st_g rfl rfl rfl rfl rfl rfl rfl (V_index rfl rfl rfl Tryd.underlying39 sz_42 (k := i) rfl hil (hx1.isSome hil)) ?_
                  first | refine GT_st_g rfl rfl rfl rfl rfl rfl rfl (V_indexArr (kk := 0) rfl rfl rfl Tryd.underlying42 sz_3 rfl (by omega)) ?_ | refine GT_st_g rfl rfl rfl rfl rfl rfl rfl (V_indexArrA (kk := 0) rfl rfl rfl Tryd.underlying42 sz_3 rfl (by omega)) ?_
                  refine GT_st_g rfl rfl rfl rfl rfl rfl rfl (V_load rfl rfl ag_3 (CellAt.own (j := 0) hx1 eIv_len hil rfl)) ?_
                  refine GT_st_g rfl rfl rfl rfl rfl rfl rfl (V_move rfl rfl) ?_
                  refine GT_st_g rfl rfl rfl rfl rfl rfl rfl (V_move rfl rfl) ?_
                  refine GT_st_g rfl rfl rfl rfl rfl rfl rfl (V_sub rfl rfl rfl (wrap_i64 (by omega))) ?_
                  refine GT_st_g rfl rfl rfl rfl rfl rfl rfl (V_index rfl rfl rfl Tryd.underlying39 sz_42 (k := i - 1) (by omega) (by omega) (hx1.isSome hil)) ?_
                  first | refine GT_st_g rfl rfl rfl rfl rfl rfl rfl (V_indexArr (kk := 1) rfl rfl rfl Tryd.underlying42 sz_3 rfl (by omega)) ?_ | refine GT_st_g rfl rfl rfl rfl rfl rfl rfl (V_indexArrA (kk := 1) rfl rfl rfl Tryd.underlying42 sz_3 rfl (by omega)) ?_
                  refine GT_st_g rfl rfl rfl rfl rfl rfl rfl (V_load rfl rfl ag_3 (CellAt.own (k := i - 1) (j := 1) hx1 eIv_len (by omega) rfl)) ?_
                  refine GT_st_g rfl rfl rfl rfl rfl rfl rfl (V_isF (V_leq rfl rfl rfl) (by omega)) ?_
                  refine GT_st_g rfl rfl rfl rfl rfl rfl rfl (V_pick_t rfl rfl rfl) ?_
                  refine GT_st rfl rfl rfl rfl (V_pick_f rfl rfl rfl) ?_
                  refine GT_nil ?_
                  refine GE_cond_f rfl ?_
                  refine GE_skip ?_
                  exact GE_to (hk () trivial) ⟨rfl, rfl, rfl, rfl, rfl, rfl, rfl, trivial⟩ HS.all
                · skip
                  refine GT_skip rfl rfl rfl rfl rfl (by decide) rfl rfl ?_
                  refine GT_skip rfl rfl rfl rfl rfl (by decide) rfl rfl ?_
                  refine GT_skip rfl rfl rfl rfl rfl (by decide) rfl rfl ?_
                  refine GT_skip rfl rfl rfl rfl rfl (by decide) rfl rfl ?_
                  refine GT_skip rfl rfl rfl rfl rfl (by decide) rfl rfl ?_
                  refine GT_skip rfl rfl rfl rfl rfl (by decide) rfl rfl ?_
                  refine GT_skip rfl rfl rfl rfl rfl (by decide) rfl rfl ?_
                  refine GT_skip rfl rfl rfl rfl rfl (by decide) rfl rfl ?_
                  refine GT_skip rfl rfl rfl rfl rfl (by decide) rfl rfl ?_
                  refine GT_skip rfl rfl rfl rfl rfl (by decide) rfl rfl ?_
                  refine GT_skip rfl rfl rfl rfl rfl (by decide) rfl rfl ?_
                  refine GT_skip rfl rfl rfl rfl rfl (by decide) rfl rfl ?_
                  refine GT_st_g rfl rfl rfl rfl rfl rfl rfl (V_pick_f rfl rfl rfl) ?_
                  refine GT_st rfl rfl rfl rfl (V_pick_f rfl rfl rfl) ?_
                  refine GT_nil ?_
                  refine GE_cond_f rfl ?_
                  refine GE_skip ?_
                  exact GE_to (hk () trivial) ⟨rfl, rfl, rfl, rfl, rfl, rfl, rfl, trivial⟩ HS.all
            · obtain rfl : i = (sil s a 1).length := (by omega)
              refine GE_exit rfl ?_
              refine GE_seq ?_
              refine GE_slots (L' := [(16, _), (21, _)]) ⟨rfl, rfl, trivial⟩ ?_
              refine GE_plain (.st 0 (.st 1 (.st 2 (.st 3 (.st 4 (.ld 5 [] (.st 6 (.st 7 .nil)))))))) rfl ?_
              refine GT_st rfl rfl rfl rfl (V_move rfl rfl) ?_
              refine GT_st rfl rfl rfl rfl (V_move rfl rfl) ?_
              refine GT_st rfl rfl rfl rfl (V_len rfl Tryd.underlying39 rfl) ?_
              refine GT_st rfl rfl rfl rfl (V_isT (V_eql rfl rfl rfl) (by rw [hzf, List.take_length])) ?_
              refine GT_st rfl rfl rfl rfl (V_move rfl rfl) ?_
              refine GT_call0_g rfl rfl rfl rfl rfl rfl rfl rfl rfl rfl rfl rn_16 (fun w hw => C_Works) (GR_nil) ?_
              refine GT_st rfl rfl rfl rfl (V_pick_t rfl rfl rfl) ?_
              refine GT_st rfl rfl rfl rfl (V_assign rfl rfl) ?_
              refine GT_nil ?_
              refine GE_ret Tryd.func4 rfl (fun w hw => ⟨?_, hw.nil⟩)
              rfl
          · exact Nat.zero_le _
      · exact ⟨Nat.zero_le _, Nat.zero_le _, fun i hi => absurd hi (Nat.not_lt_zero _)⟩
end
end Go.Proofs.YtnklkobhjdkblaaDoor
