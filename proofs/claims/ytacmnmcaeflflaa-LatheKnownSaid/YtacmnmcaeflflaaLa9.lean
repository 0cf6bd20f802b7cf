/- The lathe's check of a cut, walked. -/
import Derived.Test.YtacmnmcaeflflaaLa7
import Derived.Test.YtacmnmcaeflflaaLaY
namespace Go.Proofs.Ytacmnmcaeflflaa
open Go.Sx Go.Proofs

/-- block g holds the cells cs -/
def BlkAt (w : World) (g : Nat) (cs : List Value) (t : TypeId) : Prop := w.heap[g]? = some (blk cs t)
theorem BlkAt.cell {w : World} {g o : Nat} {cs : List Value} {t : TypeId} {v : Value} (h : BlkAt w g cs t) (hv : cs[o]? = some v) : w.cell? ⟨g, o, none⟩ = some v := by
  unfold BlkAt at h
  simp [World.cell?, h, hv]
theorem BlkAt.sh {w0 w : World} {g : Nat} {cs : List Value} {t : TypeId} {H : Items} (h : BlkAt w0 g cs t) (m : SH w0 none' H w) : BlkAt w g cs t := by
  unfold BlkAt at h ⊢
  rw [m.old g (Array.getElem?_eq_some_iff.1 h).1 (fun e => e)]; exact h
theorem BlkAt.of {w0 w : World} {M : Nat → Prop} {H : Items} {g : Nat} {cs : List Value} {t : TypeId} (m : SH w0 M H w) [h : HFind g H (blk cs t)] : BlkAt w g cs t := (m.item _ h.mem).2

theorem C_newCut1 {x : Int} {w : World} : Con0 Try.prog 65 [I x] w (.bool (!rOk x)) := by
  refine Ret_of (vs := [_]) hm none' Try.func65 rfl Try.ntmps65 rfl ?_
  dsimp only [slotsOf]
  refine GE_seq ?_
  refine GE_plain (.st 0 .nil) rfl ?_
  refine GT_st rfl rfl rfl rfl (V_assign rfl rfl) ?_
  refine GT_nil ?_
  refine GE_seq ?_
  refine GE_plain (.st 0 (.ld 1 [] (.st 2 (.st 3 .nil)))) rfl ?_
  refine GT_st rfl rfl rfl rfl (V_move rfl rfl) ?_
  refine GT_call0 rfl rfl rfl rfl rfl rfl rfl rfl rn_49 (fun w hw => C_lathe_between) (GR_nil) ?_
  first | refine GT_st rfl rfl rfl rfl (V_not rfl rfl) ?_ | refine GT_st rfl rfl rfl rfl (V_notB rfl rfl) ?_
  refine GT_st rfl rfl rfl rfl (V_assign rfl rfl) ?_
  refine GT_nil ?_
  refine GE_ret Try.func65 rfl (fun w hw => ⟨?_, hw.nil⟩)
  simp [rOk]

theorem C_IndexFunc {A2 : Option Addr} {r : List Int} {c2 : Nat} {w : World} (hr : RdL w 1 eI A2 r) (hl : r.length ≤ 1099511627776) :
    Con Try.prog 73 [.slice A2 r.length c2, .func (.func 65) #[] #[]] w (fun x : Int => 0 ≤ x ↔ r.all rOk = false) (fun x => I x) (fun _ => []) := by
  refine Ret_of (vs := [_, _]) hm none' Try.func73 rfl Try.ntmps73 rfl ?_
  dsimp only [slotsOf]
  refine GE_seq ?_
  refine GE_plain (.st 0 .nil) rfl ?_
  refine GT_st rfl rfl rfl rfl (V_assign rfl rfl) ?_
  refine GT_nil ?_
  refine GE_seq ?_
  refine GE_seq ?_
  refine GE_plain (.st 0 (.st 1 (.st 2 .nil))) rfl ?_
  refine GT_st rfl rfl rfl rfl (V_move rfl rfl) ?_
  refine GT_st rfl rfl rfl rfl (V_len rfl Try.underlying25 rfl) ?_
  refine GT_st rfl rfl rfl rfl (V_move rfl rfl) ?_
  refine GT_nil ?_
  refine GE_block ?_
  refine GE_to (GE_loop (ι := Nat) (fun k => r.length - k) (fun k => [(0, .slice A2 r.length c2), (1, .func (.func 65) #[] #[]), (7, I r.length), (8, I k)]) (fun k => []) (fun k => k ≤ r.length ∧ (r.take k).all rOk = true) ?_ 0 ?_) ⟨rfl, rfl, rfl, rfl, trivial⟩ HS.nil
  · rintro k ⟨hk, hall⟩ ih
    refine GE_seq ?_
    refine GE_plain (.st 0 .nil) rfl ?_
    refine GT_st rfl rfl rfl rfl (V_lss rfl rfl rfl) ?_
    refine GT_nil ?_
    refine GE_seq ?_
    first | refine GE_condNot rfl (fun h1 => ?_) (fun h1 => ?_) | refine GE_cond rfl (fun h1 => ?_) (fun h1 => ?_) | refine GE_condNotB rfl (fun h1 => ?_) (fun h1 => ?_) | refine GE_condB rfl (fun h1 => ?_) (fun h1 => ?_)
    · have hlt : k < r.length := (by omega)
      refine GE_skip ?_
      refine GE_seq ?_
      refine GE_block ?_
      refine GE_seq ?_
      refine GE_plain (.st 0 (.st 1 .nil)) rfl ?_
      refine GT_st rfl rfl rfl rfl (V_move rfl rfl) ?_
      refine GT_st rfl rfl rfl rfl (V_assign rfl rfl) ?_
      refine GT_nil ?_
      refine GE_seq ?_
      refine GE_plain (.st 0 (.st 1 (.st 2 (.st 3 (.st 4 (.ld 5 [] .nil)))))) rfl ?_
      refine GT_st rfl rfl rfl rfl (V_move rfl rfl) ?_
      refine GT_st rfl rfl rfl rfl (V_move rfl rfl) ?_
      refine GT_st rfl rfl rfl rfl (V_move rfl rfl) ?_
      refine GT_st rfl rfl rfl rfl (V_index rfl rfl rfl Try.underlying25 sz_2 rfl hlt (hr.isSome hlt)) ?_
      refine GT_st rfl rfl rfl rfl (V_load rfl rfl ag_2 (hr.at0 noM hlt rfl)) ?_
      refine GT_call0 rfl rfl rfl rfl rfl rfl rfl rfl rn_65 (fun w hw => C_newCut1 (x := r.getD k default)) (GR_nil) ?_
      refine GT_nil ?_
      first | refine GE_condNot rfl (fun hb => ?_) (fun hb => ?_) | refine GE_cond rfl (fun hb => ?_) (fun hb => ?_) | refine GE_condNotB rfl (fun hb => ?_) (fun hb => ?_) | refine GE_condB rfl (fun hb => ?_) (fun hb => ?_)
      · have hn := not_all_of (f := rOk) hlt (by simpa using hb)
        refine GE_seq ?_
        refine GE_slots (L' := [(5, _)]) ⟨rfl, trivial⟩ ?_
        refine GE_plain (.st 0 (.st 1 .nil)) rfl ?_
        refine GT_st rfl rfl rfl rfl (V_move rfl rfl) ?_
        refine GT_st rfl rfl rfl rfl (V_assign rfl rfl) ?_
        refine GT_nil ?_
        refine GE_ret Try.func73 rfl (fun w hw => ?_)
        exact ⟨(k : Int), ⟨fun _ => hn, fun _ => by omega⟩, rfl, hw.nil⟩
      · have hb : rOk (r.getD k default) = true := by simpa using hb
        refine GE_skip ?_
        refine GE_inBlock ?_
        refine GE_slots (L' := [(0, _), (1, _), (7, _), (8, _)]) ⟨rfl, rfl, rfl, rfl, trivial⟩ ?_
        refine GE_plain (.st 0 (.ld 1 [] .nil)) rfl ?_
        refine GT_st rfl rfl rfl rfl (V_add rfl rfl rfl (wrap_i64 (by omega))) ?_
        refine GT_ldv rfl rfl rfl rfl rfl (V_move rfl rfl) (GR_nil) ?_
        refine GT_nil ?_
        exact GE_to (ih (k + 1) ⟨by omega, by rw [all_take_succ (by omega), hall, hb]; rfl⟩ (by omega)) ⟨rfl, rfl, rfl, rfl, trivial⟩ HS.nil
    · rw [List.take_of_length_le (by omega)] at hall
      refine GE_exit rfl ?_
      refine GE_seq ?_
      refine GE_slots (L' := []) trivial ?_
      refine GE_plain (.st 0 .nil) rfl ?_
      refine GT_st rfl rfl rfl rfl (V_assign rfl rfl) ?_
      refine GT_nil ?_
      refine GE_ret Try.func73 rfl (fun w hw => ?_)
      exact ⟨-1, ⟨fun h => by omega, fun h => by rw [hall] at h; cases h⟩, rfl, hw.nil⟩
  · exact ⟨Nat.zero_le _, by simp⟩
theorem C_ContainsFunc {A2 : Option Addr} {r : List Int} {c2 : Nat} {w : World} (hr : RdL w 1 eI A2 r) (hl : r.length ≤ 1099511627776) :
    Con0 Try.prog 64 [.slice A2 r.length c2, .func (.func 65) #[] #[]] w (.bool (!r.all rOk)) := by
  refine Ret_of (vs := [_, _]) hm none' Try.func64 rfl Try.ntmps64 rfl ?_
  dsimp only [slotsOf]
  refine GE_seq ?_
  refine GE_plain (.st 0 .nil) rfl ?_
  refine GT_st rfl rfl rfl rfl (V_assign rfl rfl) ?_
  refine GT_nil ?_
  refine GE_seq ?_
  refine GE_plain (.st 0 (.st 1 (.ld 2 [] (.st 3 (.st 4 .nil))))) rfl ?_
  refine GT_st rfl rfl rfl rfl (V_move rfl rfl) ?_
  refine GT_st rfl rfl rfl rfl (V_move rfl rfl) ?_
  refine GT_call rfl rfl rfl rfl rfl rfl rfl rfl rn_73 (fun w hw => C_IndexFunc (hr.sh hw) hl) (fun _ _ => GR_nil) (fun x hx => ?_)
  refine GT_st rfl rfl rfl rfl (V_geq rfl rfl rfl) ?_
  refine GT_st rfl rfl rfl rfl (V_assign rfl rfl) ?_
  refine GT_nil ?_
  refine GE_ret Try.func64 rfl (fun w hw => ⟨?_, hw.nil⟩)
  refine congrArg Value.bool ?_; cases ha : r.all rOk with | true => exact decide_eq_false (by rw [ha] at hx; simpa using hx) | false => exact decide_eq_true (hx.2 ha)

theorem C_lathe_newCut_err {b : Blank} {A A2 : Option Addr} {l : List Pt} {r : List Int} {c c2 : Nat} {w : World} (hp : RdL w 2 ePt A l) (hr : RdL w 1 eI A2 r) (hlr : r.length ≤ 1099511627776) (hne : cutE b l r ≠ 0) :
    Con0 Try.prog 42 [b.val, .slice A l.length c, .slice A2 r.length c2] w (.tuple #[.pointer none, I (cutE b l r)]) := by
  by_cases he : both b l = 0
  · have e1 : cutE b l r = if r.length = l.length then (if r.all rOk then 0 else 2) else 17 := if_pos he
    refine Ret_of (vs := [_, _, _]) hm none' Try.func42 rfl Try.ntmps42 rfl ?_
    dsimp only [slotsOf]
    refine GE_seq ?_
    refine GE_plain (.ld 0 [] (.st 1 (.st 2 .nil))) rfl ?_
    refine GT_box (z := [_, _, _, _, _, _]) rfl rfl rfl rfl rfl rfl rfl (fun _ => GR_nil) (fun b3 => ?_)
    refine GT_st rfl rfl rfl rfl (V_assign rfl rfl) ?_
    refine GT_st rfl rfl rfl rfl (V_assign rfl rfl) ?_
    refine GT_nil ?_
    refine GE_seq ?_
    refine GE_plain (.st 0 (.st 1 (.ld 2 [] (.st 3 (.st 4 (.st 5 (.st 6 (.st 7 .nil)))))))) rfl ?_
    refine GT_st rfl rfl rfl rfl (V_loadN (vs := [_, _, _, _, _, _]) rfl rfl ag_23 sz_23 rfl (CellsAt.item rfl)) ?_
    refine GT_st rfl rfl rfl rfl (V_move rfl rfl) ?_
    refine GT_call rfl rfl rfl rfl rfl rfl rfl rfl rn_38 (fun w hw => C_lathe_newSide_ok (hp.sh hw) he) (fun _ _ => GR_nil) (fun bs _ => ?_)
    refine GT_st rfl rfl rfl rfl (V_move rfl rfl) ?_
    refine GT_st rfl rfl rfl rfl (V_extract rfl rfl rfl) ?_
    refine GT_st rfl rfl rfl rfl (V_extract rfl rfl rfl) ?_
    refine GT_st rfl rfl rfl rfl (V_assign rfl rfl) ?_
    refine GT_st rfl rfl rfl rfl (V_assign rfl rfl) ?_
    refine GT_nil ?_
    refine GE_seq ?_
    refine GE_seq ?_
    refine GE_slots (L' := [(1, _), (2, _), (8, _), (9, _)]) ⟨rfl, rfl, rfl, rfl, trivial⟩ ?_
    refine GE_plain (.st 0 (.st 1 .nil)) rfl ?_
    refine GT_st rfl rfl rfl rfl (V_move rfl rfl) ?_
    refine GT_st rfl rfl rfl rfl (V_neq rfl rfl rfl) ?_
    refine GT_nil ?_
    first | refine GE_condNot rfl (fun h1 => ?_) (fun h1 => ?_) | refine GE_cond rfl (fun h1 => ?_) (fun h1 => ?_) | refine GE_condNotB rfl (fun h1 => ?_) (fun h1 => ?_) | refine GE_condB rfl (fun h1 => ?_) (fun h1 => ?_)
    · exact absurd rfl h1
    · skip
      refine GE_skip ?_
      refine GE_seq ?_
      refine GE_seq ?_
      refine GE_plain (.st 0 (.st 1 (.st 2 (.st 3 (.st 4 .nil))))) rfl ?_
      refine GT_st rfl rfl rfl rfl (V_move rfl rfl) ?_
      refine GT_st rfl rfl rfl rfl (V_len rfl Try.underlying25 rfl) ?_
      refine GT_st rfl rfl rfl rfl (V_move rfl rfl) ?_
      refine GT_st rfl rfl rfl rfl (V_len rfl Try.underlying24 rfl) ?_
      refine GT_st rfl rfl rfl rfl (V_neq rfl rfl rfl) ?_
      refine GT_nil ?_
      first | refine GE_condNot rfl (fun h2 => ?_) (fun h2 => ?_) | refine GE_cond rfl (fun h2 => ?_) (fun h2 => ?_) | refine GE_condNotB rfl (fun h2 => ?_) (fun h2 => ?_) | refine GE_condB rfl (fun h2 => ?_) (fun h2 => ?_)
      · skip
        refine GE_seq ?_
        refine GE_slots (L' := []) trivial ?_
        refine GE_plain (.st 0 (.st 1 .nil)) rfl ?_
        refine GT_st rfl rfl rfl rfl (V_assign rfl rfl) ?_
        refine GT_st rfl rfl rfl rfl (V_assign rfl rfl) ?_
        refine GT_nil ?_
        refine GE_ret Try.func42 ⟨_, _, rfl, rfl, rfl⟩ (fun w hw => ⟨?_, hw.nil⟩)
        rw [e1, if_neg (by omega)]
      · have hl : r.length = l.length := (by omega); rw [if_pos hl] at e1
        refine GE_skip ?_
        refine GE_seq ?_
        refine GE_seq ?_
        refine GE_slots (L' := [(2, _), (8, _)]) ⟨rfl, rfl, trivial⟩ ?_
        refine GE_plain (.st 0 (.ld 1 [] .nil)) rfl ?_
        refine GT_st rfl rfl rfl rfl (V_move rfl rfl) ?_
        refine GT_call0 rfl rfl rfl rfl rfl rfl rfl rfl rn_64 (fun w hw => C_ContainsFunc (hr.sh hw) hlr) (GR_nil) ?_
        refine GT_nil ?_
        first | refine GE_condNot rfl (fun h3 => ?_) (fun h3 => ?_) | refine GE_cond rfl (fun h3 => ?_) (fun h3 => ?_) | refine GE_condNotB rfl (fun h3 => ?_) (fun h3 => ?_) | refine GE_condB rfl (fun h3 => ?_) (fun h3 => ?_)
        · have ha : r.all rOk = false := (by simpa using h3)
          refine GE_seq ?_
          refine GE_slots (L' := []) trivial ?_
          refine GE_plain (.st 0 (.st 1 .nil)) rfl ?_
          refine GT_st rfl rfl rfl rfl (V_assign rfl rfl) ?_
          refine GT_st rfl rfl rfl rfl (V_assign rfl rfl) ?_
          refine GT_nil ?_
          refine GE_ret Try.func42 ⟨_, _, rfl, rfl, rfl⟩ (fun w hw => ⟨?_, hw.nil⟩)
          rw [e1, ha]; rfl
        · exact absurd (by rw [e1, if_pos (by simpa using h3)]) hne
  · have e1 : cutE b l r = both b l := if_neg he
    refine Ret_of (vs := [_, _, _]) hm none' Try.func42 rfl Try.ntmps42 rfl ?_
    dsimp only [slotsOf]
    refine GE_seq ?_
    refine GE_plain (.ld 0 [] (.st 1 (.st 2 .nil))) rfl ?_
    refine GT_box (z := [_, _, _, _, _, _]) rfl rfl rfl rfl rfl rfl rfl (fun _ => GR_nil) (fun b3 => ?_)
    refine GT_st rfl rfl rfl rfl (V_assign rfl rfl) ?_
    refine GT_st rfl rfl rfl rfl (V_assign rfl rfl) ?_
    refine GT_nil ?_
    refine GE_seq ?_
    refine GE_plain (.st 0 (.st 1 (.ld 2 [] (.st 3 (.st 4 (.st 5 (.st 6 (.st 7 .nil)))))))) rfl ?_
    refine GT_st rfl rfl rfl rfl (V_loadN (vs := [_, _, _, _, _, _]) rfl rfl ag_23 sz_23 rfl (CellsAt.item rfl)) ?_
    refine GT_st rfl rfl rfl rfl (V_move rfl rfl) ?_
    refine GT_call0 rfl rfl rfl rfl rfl rfl rfl rfl rn_38 (fun w hw => C_lathe_newSide_err (hp.sh hw) he) (GR_nil) ?_
    refine GT_st rfl rfl rfl rfl (V_move rfl rfl) ?_
    refine GT_st rfl rfl rfl rfl (V_extract rfl rfl rfl) ?_
    refine GT_st rfl rfl rfl rfl (V_extract rfl rfl rfl) ?_
    refine GT_st rfl rfl rfl rfl (V_assign rfl rfl) ?_
    refine GT_st rfl rfl rfl rfl (V_assign rfl rfl) ?_
    refine GT_nil ?_
    refine GE_seq ?_
    refine GE_seq ?_
    refine GE_slots (L' := [(1, _), (2, _), (8, _), (9, _)]) ⟨rfl, rfl, rfl, rfl, trivial⟩ ?_
    refine GE_plain (.st 0 (.st 1 .nil)) rfl ?_
    refine GT_st rfl rfl rfl rfl (V_move rfl rfl) ?_
    refine GT_st rfl rfl rfl rfl (V_neq rfl rfl rfl) ?_
    refine GT_nil ?_
    first | refine GE_condNot rfl (fun h1 => ?_) (fun h1 => ?_) | refine GE_cond rfl (fun h1 => ?_) (fun h1 => ?_) | refine GE_condNotB rfl (fun h1 => ?_) (fun h1 => ?_) | refine GE_condB rfl (fun h1 => ?_) (fun h1 => ?_)
    · skip
      refine GE_seq ?_
      refine GE_slots (L' := [(9, _)]) ⟨rfl, trivial⟩ ?_
      refine GE_plain (.st 0 (.st 1 (.st 2 .nil))) rfl ?_
      refine GT_st rfl rfl rfl rfl (V_move rfl rfl) ?_
      refine GT_st rfl rfl rfl rfl (V_assign rfl rfl) ?_
      refine GT_st rfl rfl rfl rfl (V_assign rfl rfl) ?_
      refine GT_nil ?_
      refine GE_ret Try.func42 ⟨_, _, rfl, rfl, rfl⟩ (fun w hw => ⟨?_, hw.nil⟩)
      rw [e1]; rfl
    · exact absurd h1 he

theorem C_lathe_newCut_ok {b : Blank} {A A2 : Option Addr} {l : List Pt} {r : List Int} {c c2 : Nat} {w : World} (hp : RdL w 2 ePt A l) (hr : RdL w 1 eI A2 r) (he : cutE b l r = 0) :
    Con Try.prog 42 [b.val, .slice A l.length c, .slice A2 r.length c2] w (fun _ : Nat × Nat => True) (fun x => .tuple #[ptr x.2 0, I 0]) (fun x => [(x.2, blk [ptr x.1 0, .slice A2 r.length c2] 84), (x.1, blk (sideCells b A l c) 92)]) := by
  obtain ⟨h0, hrl, hall⟩ := cutE_zero.1 he
  obtain ⟨hb, hl, hpt⟩ := both_zero.1 h0
  refine Ret_of (vs := [_, _, _]) hm none' Try.func42 rfl Try.ntmps42 rfl ?_
  dsimp only [slotsOf]
  refine GE_seq ?_
  refine GE_plain (.ld 0 [] (.st 1 (.st 2 .nil))) rfl ?_
  refine GT_box (z := [_, _, _, _, _, _]) rfl rfl rfl rfl rfl rfl rfl (fun _ => GR_nil) (fun b3 => ?_)
  refine GT_st rfl rfl rfl rfl (V_assign rfl rfl) ?_
  refine GT_st rfl rfl rfl rfl (V_assign rfl rfl) ?_
  refine GT_nil ?_
  refine GE_seq ?_
  refine GE_plain (.st 0 (.st 1 (.ld 2 [] (.st 3 (.st 4 (.st 5 (.st 6 (.st 7 .nil)))))))) rfl ?_
  refine GT_st rfl rfl rfl rfl (V_loadN (vs := [_, _, _, _, _, _]) rfl rfl ag_23 sz_23 rfl (CellsAt.item rfl)) ?_
  refine GT_st rfl rfl rfl rfl (V_move rfl rfl) ?_
  refine GT_call rfl rfl rfl rfl rfl rfl rfl rfl rn_38 (fun w hw => C_lathe_newSide_ok (hp.sh hw) h0) (fun _ _ => GR_nil) (fun bs _ => ?_)
  refine GT_st rfl rfl rfl rfl (V_move rfl rfl) ?_
  refine GT_st rfl rfl rfl rfl (V_extract rfl rfl rfl) ?_
  refine GT_st rfl rfl rfl rfl (V_extract rfl rfl rfl) ?_
  refine GT_st rfl rfl rfl rfl (V_assign rfl rfl) ?_
  refine GT_st rfl rfl rfl rfl (V_assign rfl rfl) ?_
  refine GT_nil ?_
  refine GE_seq ?_
  refine GE_seq ?_
  refine GE_slots (L' := [(1, _), (2, _), (8, _), (9, _)]) ⟨rfl, rfl, rfl, rfl, trivial⟩ ?_
  refine GE_plain (.st 0 (.st 1 .nil)) rfl ?_
  refine GT_st rfl rfl rfl rfl (V_move rfl rfl) ?_
  refine GT_st rfl rfl rfl rfl (V_neq rfl rfl rfl) ?_
  refine GT_nil ?_
  first | refine GE_condNot rfl (fun h1 => ?_) (fun h1 => ?_) | refine GE_cond rfl (fun h1 => ?_) (fun h1 => ?_) | refine GE_condNotB rfl (fun h1 => ?_) (fun h1 => ?_) | refine GE_condB rfl (fun h1 => ?_) (fun h1 => ?_)
  · exact absurd rfl h1
  · skip
    refine GE_skip ?_
    refine GE_seq ?_
    refine GE_seq ?_
    refine GE_plain (.st 0 (.st 1 (.st 2 (.st 3 (.st 4 .nil))))) rfl ?_
    refine GT_st rfl rfl rfl rfl (V_move rfl rfl) ?_
    refine GT_st rfl rfl rfl rfl (V_len rfl Try.underlying25 rfl) ?_
    refine GT_st rfl rfl rfl rfl (V_move rfl rfl) ?_
    refine GT_st rfl rfl rfl rfl (V_len rfl Try.underlying24 rfl) ?_
    refine GT_st rfl rfl rfl rfl (V_neq rfl rfl rfl) ?_
    refine GT_nil ?_
    first | refine GE_condNot rfl (fun h2 => ?_) (fun h2 => ?_) | refine GE_cond rfl (fun h2 => ?_) (fun h2 => ?_) | refine GE_condNotB rfl (fun h2 => ?_) (fun h2 => ?_) | refine GE_condB rfl (fun h2 => ?_) (fun h2 => ?_)
    · exact absurd (by omega) h2
    · skip
      refine GE_skip ?_
      refine GE_seq ?_
      refine GE_seq ?_
      refine GE_slots (L' := [(2, _), (8, _)]) ⟨rfl, rfl, trivial⟩ ?_
      refine GE_plain (.st 0 (.ld 1 [] .nil)) rfl ?_
      refine GT_st rfl rfl rfl rfl (V_move rfl rfl) ?_
      refine GT_call0 rfl rfl rfl rfl rfl rfl rfl rfl rn_64 (fun w hw => C_ContainsFunc (hr.sh hw) (by omega)) (GR_nil) ?_
      refine GT_nil ?_
      first | refine GE_condNot rfl (fun h3 => ?_) (fun h3 => ?_) | refine GE_cond rfl (fun h3 => ?_) (fun h3 => ?_) | refine GE_condNotB rfl (fun h3 => ?_) (fun h3 => ?_) | refine GE_condB rfl (fun h3 => ?_) (fun h3 => ?_)
      · rw [hall] at h3; cases h3
      · skip
        refine GE_skip ?_
        refine GE_seq ?_
        refine GE_plain (.st 0 (.st 1 (.st 2 (.ld 3 [] (.st 4 (.st 5 .nil)))))) rfl ?_
        refine GT_st rfl rfl rfl rfl (V_move rfl rfl) ?_
        refine GT_st rfl rfl rfl rfl (V_move rfl rfl) ?_
        refine GT_st rfl rfl rfl rfl (V_build (vs := [_, _]) rfl rfl zc_84 pl_84 sa_84 rfl) ?_
        refine GT_box (z := [_, _]) rfl rfl rfl rfl rfl rfl rfl (fun _ => GR_nil) (fun b29 => ?_)
        refine GT_st rfl rfl rfl rfl (V_assign rfl rfl) ?_
        refine GT_st rfl rfl rfl rfl (V_assign rfl rfl) ?_
        refine GT_nil ?_
        refine GE_ret Try.func42 ⟨_, _, rfl, rfl, rfl⟩ (fun w hw => ?_)
        exact ⟨(bs, b29), trivial, rfl, hw.to (show HS (cx Try.prog hm 0 0 w none' (fun _ _ => True)) _ _ from HS.cons rfl (HS.cons rfl HS.nil))⟩

theorem C_lathe_steps {bs : Nat} {w : World} : Con Try.prog 44 [ptr bs 0] w (fun _ : Nat => True) (fun bb => .func (.func 66) #[] #[ptr bb 0]) (fun bb => [(bb, blk [ptr bs 0] 66)]) := by
  refine Ret_of (vs := [_]) hm none' Try.func44 rfl Try.ntmps44 rfl ?_
  dsimp only [slotsOf]
  refine GE_seq ?_
  refine GE_plain (.ld 0 [] (.st 1 .nil)) rfl ?_
  refine GT_box (z := [_]) rfl rfl rfl rfl rfl rfl rfl (fun _ => GR_nil) (fun b1 => ?_)
  refine GT_st rfl rfl rfl rfl (V_assign rfl rfl) ?_
  refine GT_nil ?_
  refine GE_seq ?_
  refine GE_plain (.st 0 (.st 1 .nil)) rfl ?_
  refine GT_st rfl rfl rfl rfl (V_makeFunc rfl rfl rfl) ?_
  refine GT_st rfl rfl rfl rfl (V_assign rfl rfl) ?_
  refine GT_nil ?_
  refine GE_ret Try.func44 rfl (fun w hw => ⟨b1, trivial, rfl, hw⟩)
  skip

theorem C_steps1 {b : Blank} {A : Option Addr} {l : List Pt} {c bs bb lp : Nat} {w w0 : World} {J : Items} {Q : List Stp → Items → Prop} {Qx : Items → Prop} (hs : SideAt w0 bs b A l c) (hbb : BlkAt w0 bb [ptr bs 0] 66) (hl : l.length ≤ 4096)
    (hY : ∀ pre x J, (pre ++ [x]) <+: stepList l → Q pre J → ∀ G, YieldTo Try.prog w0 none' lp [.agg (eStp x).toArray] (J ++ G) fun v H' => ∃ J', H' = J' ++ G ∧ (v = .bool true ∧ Q (pre ++ [x]) J' ∨ v = .bool false ∧ Qx J'))
    (hQ : Q [] J) {G : Items} (m : SH w0 none' (J ++ G) w) :
    Ret Try.prog 66 [.func (.yield lp) #[] #[], ptr bb 0].toArray w fun v w' => ∃ J', (Q (stepList l) J' ∨ Qx J') ∧ SH w0 none' (J' ++ G) w' := by
  refine Ret_ofH (vs := [_, _]) hm none' Try.func66 rfl Try.ntmps66 rfl m ?_
  dsimp only [slotsOf]
  refine GE_seq ?_
  refine GE_plain (.st 0 (.st 1 (.st 2 (.st 3 (.st 4 (.st 5 .nil)))))) rfl ?_
  first | refine GT_st rfl rfl rfl rfl (V_load rfl rfl ag_66 (CellAt.item rfl)) ?_ | refine GT_st rfl rfl rfl rfl (V_load rfl rfl ag_66 (CellAt.old (hbb.cell rfl) (noM _))) ?_ | refine GT_st rfl rfl rfl rfl (V_load rfl rfl ag_66 (CellAt.old (hs.cell rfl) (noM _))) ?_
  first | refine GT_st rfl rfl rfl rfl (V_nilCheck rfl rfl) ?_ | refine GT_st rfl rfl rfl rfl (V_nilCheck_func rfl rfl) ?_ | refine GT_st rfl rfl rfl rfl (V_nilCheck_yield rfl rfl) ?_
  first | refine GT_st rfl rfl rfl rfl (V_field rfl rfl fo_92_1) ?_ | refine GT_st rfl rfl rfl rfl (V_fieldA rfl rfl fo_92_1) ?_
  first | refine GT_st rfl rfl rfl rfl (V_load rfl rfl ag_24 (CellAt.item rfl)) ?_ | refine GT_st rfl rfl rfl rfl (V_load rfl rfl ag_24 (CellAt.old (hbb.cell rfl) (noM _))) ?_ | refine GT_st rfl rfl rfl rfl (V_load rfl rfl ag_24 (CellAt.old (hs.cell rfl) (noM _))) ?_
  refine GT_st rfl rfl rfl rfl (V_len rfl Try.underlying24 rfl) ?_
  refine GT_st rfl rfl rfl rfl (V_move rfl rfl) ?_
  refine GT_nil ?_
  refine GE_block ?_
  refine GE_to (GE_loop (ι := Nat × Items) (fun x => l.length - x.1) (fun x => [(0, .func (.yield lp) #[] #[]), (9, I l.length), (10, I x.1)]) (fun x => x.2 ++ G) (fun x => x.1 ≤ l.length ∧ Q (stepTo x.1 0) x.2) ?_ (0, J) ?_) ⟨rfl, rfl, rfl, trivial⟩ (HS.chunk HS.last)
  · rintro ⟨k, J1⟩ ⟨hk, hQ1⟩ ih; dsimp only at hk hQ1 ih ⊢
    refine GE_seq ?_
    refine GE_plain (.st 0 .nil) rfl ?_
    refine GT_st rfl rfl rfl rfl (V_lss rfl rfl rfl) ?_
    refine GT_nil ?_
    refine GE_seq ?_
    first | refine GE_condNot rfl (fun h1 => ?_) (fun h1 => ?_) | refine GE_cond rfl (fun h1 => ?_) (fun h1 => ?_) | refine GE_condNotB rfl (fun h1 => ?_) (fun h1 => ?_) | refine GE_condB rfl (fun h1 => ?_) (fun h1 => ?_)
    · have hkl : k < l.length := (by omega)
      refine GE_skip ?_
      refine GE_seq ?_
      refine GE_block ?_
      refine GE_seq ?_
      refine GE_plain (.st 0 (.st 1 .nil)) rfl ?_
      refine GT_st rfl rfl rfl rfl (V_move rfl rfl) ?_
      refine GT_st rfl rfl rfl rfl (V_assign rfl rfl) ?_
      refine GT_nil ?_
      refine GE_seq ?_
      refine GE_plain (.st 0 .nil) rfl ?_
      refine GT_st rfl rfl rfl rfl (V_assign rfl rfl) ?_
      refine GT_nil ?_
      refine GE_block ?_
      refine GE_to (GE_loop (ι := Nat × Items) (fun x => 5 - x.1) (fun x => [(0, .func (.yield lp) #[] #[]), (3, I k), (4, I ((x.1 : Int) + 1)), (9, I l.length), (10, I k)]) (fun x => x.2 ++ G) (fun x => x.1 ≤ 5 ∧ Q (stepTo k x.1) x.2) ?_ (0, J1) ?_) ⟨rfl, rfl, rfl, rfl, rfl, trivial⟩ (HS.chunk HS.last)
      · rintro ⟨j, J2⟩ ⟨hj, hQ2⟩ ih2; dsimp only at hj hQ2 ih2 ⊢
        refine GE_seq ?_
        refine GE_seq ?_
        refine GE_plain (.st 0 (.st 1 .nil)) rfl ?_
        refine GT_st rfl rfl rfl rfl (V_move rfl rfl) ?_
        refine GT_st rfl rfl rfl rfl (V_leq rfl rfl rfl) ?_
        refine GT_nil ?_
        first | refine GE_condNot rfl (fun h2 => ?_) (fun h2 => ?_) | refine GE_cond rfl (fun h2 => ?_) (fun h2 => ?_) | refine GE_condNotB rfl (fun h2 => ?_) (fun h2 => ?_) | refine GE_condB rfl (fun h2 => ?_) (fun h2 => ?_)
        · have hjl : j < 5 := (by omega)
          refine GE_skip ?_
          refine GE_seq ?_
          refine GE_block ?_
          refine GE_seq ?_
          refine GE_plain (.st 0 (.st 1 (.st 2 (.st 3 (.ld 4 [] (.st 5 .nil)))))) rfl ?_
          refine GT_st rfl rfl rfl rfl (V_move rfl rfl) ?_
          refine GT_st rfl rfl rfl rfl (V_move rfl rfl) ?_
          refine GT_st rfl rfl rfl rfl (V_move rfl rfl) ?_
          refine GT_st rfl rfl rfl rfl (V_build (vs := [_, _]) rfl rfl zc_62 pl_62 sa_62 rfl) ?_
          refine GT_yield rfl rfl rfl rfl rfl rfl rfl (YieldTo.chunk (hY (stepTo k j) ⟨(j : Int) + 1, k⟩ _ (by rw [stepTo_succ]; exact stepTo_pre hkl (by omega)) hQ2 _)) (fun _ _ _ => GR_nil) (fun v H' hR => ?_)
          rcases hR with ⟨J3, rfl, ⟨rfl, hQ3⟩ | ⟨rfl, hX⟩⟩
          · skip
            first | refine GT_st rfl rfl rfl rfl (V_not rfl rfl) ?_ | refine GT_st rfl rfl rfl rfl (V_notB rfl rfl) ?_
            refine GT_nil ?_
            refine GE_cond_f rfl ?_
            refine GE_skip ?_
            refine GE_inBlock ?_
            refine GE_slots (L' := [(0, _), (3, _), (4, _), (9, _), (10, _)]) ⟨rfl, rfl, rfl, rfl, rfl, trivial⟩ ?_
            refine GE_plain (.st 0 (.st 1 (.ld 2 [] .nil))) rfl ?_
            refine GT_st rfl rfl rfl rfl (V_move rfl rfl) ?_
            refine GT_st rfl rfl rfl rfl (V_add rfl rfl rfl (wrap_i64 (by omega))) ?_
            refine GT_ldv rfl rfl rfl rfl rfl (V_assign rfl rfl) (GR_nil) ?_
            refine GT_nil ?_
            exact GE_to (ih2 (j + 1, J3) ⟨by dsimp only; omega, by dsimp only; rw [← stepTo_succ]; exact hQ3⟩ (by dsimp only; omega)) ⟨rfl, rfl, lookI rfl (by dsimp only; omega), rfl, rfl, trivial⟩ (HS.chunk HS.last)
          · skip
            first | refine GT_st rfl rfl rfl rfl (V_not rfl rfl) ?_ | refine GT_st rfl rfl rfl rfl (V_notB rfl rfl) ?_
            refine GT_nil ?_
            refine GE_cond_t rfl ?_
            refine GE_ret Try.func66 rfl (fun w hw => ?_)
            first | exact ⟨J3, .inr hX, hw⟩ | exact ⟨J1, .inl hQ1, hw⟩
        · skip
          refine GE_exit rfl ?_
          refine GE_inBlock ?_
          refine GE_slots (L' := [(0, _), (9, _), (10, _)]) ⟨rfl, rfl, rfl, trivial⟩ ?_
          refine GE_plain (.st 0 (.ld 1 [] .nil)) rfl ?_
          refine GT_st rfl rfl rfl rfl (V_add rfl rfl rfl (wrap_i64 (by omega))) ?_
          refine GT_ldv rfl rfl rfl rfl rfl (V_move rfl rfl) (GR_nil) ?_
          refine GT_nil ?_
          exact GE_to (ih (k + 1, J2) ⟨by dsimp only; omega, by dsimp only; rw [← stepTo_five, ← (show j = 5 by omega)]; exact hQ2⟩ (by dsimp only; omega)) ⟨rfl, rfl, rfl, trivial⟩ (HS.chunk HS.last)
      · exact ⟨Nat.zero_le _, hQ1⟩
    · obtain rfl : k = l.length := (by omega)
      refine GE_exit rfl ?_
      refine GE_end Try.func66 rfl (fun w hw => ?_)
      first | exact ⟨J3, .inr hX, hw⟩ | exact ⟨J1, .inl hQ1, hw⟩
  · exact ⟨Nat.zero_le _, hQ⟩

theorem at'_rim {r : List Int} {i : Int} (h : i = -1) : at' r i = 0 := if_pos h
theorem at'_in {r : List Int} {i : Int} (h : ¬ i = -1) : at' r i = r.getD i.toNat default := if_neg h
set_option maxRecDepth 10000 in
theorem C_lathe_keeps {b : Blank} {A A2 : Option Addr} {l : List Pt} {r : List Int} {c c2 bs cs i : Nat} {rule : Int} {w : World} (hs : SideAt w bs b A l c) (hcs : BlkAt w cs [ptr bs 0, .slice A2 r.length c2] 84) (hp : RdL w 2 ePt A l) (hr : RdL w 1 eI A2 r) (he : cutE b l r = 0) (hi : i < l.length) (hru : 1 ≤ rule ∧ rule ≤ 5) :
    Con0 Try.prog 46 [ptr cs 0, I rule, I i] w (.bool (kept b l r i rule)) := by
  obtain ⟨h0, hrl, hall⟩ := cutE_zero.1 he
  obtain ⟨hb, hl, hpt⟩ := both_zero.1 h0
  have hpb := ptB_of hpt
  have hsm := sm_of hall
  rw [← keepsL_kept hb hi hru]
  have hIn : In l.length (i : Int) := ⟨by omega, by omega⟩
  obtain ⟨hf, ht, hw1, hw2⟩ := edgeOf_place (rule := rule) hb hpb hIn
  unfold In at hf ht
  refine Ret_of (vs := [_, _, _]) hm none' Try.func46 rfl Try.ntmps46 rfl ?_
  dsimp only [slotsOf]
  refine GE_seq ?_
  refine GE_plain (.st 0 .nil) rfl ?_
  refine GT_st rfl rfl rfl rfl (V_assign rfl rfl) ?_
  refine GT_nil ?_
  refine GE_seq ?_
  refine GE_plain (.st 0 (.st 1 (.st 2 (.st 3 (.st 4 (.st 5 (.ld 6 [] (.st 7 (.st 8 (.st 9 (.ld 10 [] (.ld 11 [] (.st 12 .nil))))))))))))) rfl ?_
  refine GT_st rfl rfl rfl rfl (V_move rfl rfl) ?_
  first | refine GT_st rfl rfl rfl rfl (V_nilCheck rfl rfl) ?_ | refine GT_st rfl rfl rfl rfl (V_nilCheck_func rfl rfl) ?_ | refine GT_st rfl rfl rfl rfl (V_nilCheck_yield rfl rfl) ?_
  first | refine GT_st rfl rfl rfl rfl (V_field rfl rfl fo_84_0) ?_ | refine GT_st rfl rfl rfl rfl (V_fieldA rfl rfl fo_84_0) ?_
  first | refine GT_st rfl rfl rfl rfl (V_load rfl rfl ag_66 (CellAt.item rfl)) ?_ | refine GT_st rfl rfl rfl rfl (V_load rfl rfl ag_66 (CellAt.old (hcs.cell rfl) (noM _))) ?_
  refine GT_st rfl rfl rfl rfl (V_move rfl rfl) ?_
  refine GT_st rfl rfl rfl rfl (V_move rfl rfl) ?_
  refine GT_call0 rfl rfl rfl rfl rfl rfl rfl rfl rn_57 (fun w hw => C_lathe_edge (hs.sh hw) (hp.sh hw) hb hl hpt) (GR_nil) ?_
  refine GT_st rfl rfl rfl rfl (V_move rfl rfl) ?_
  refine GT_st rfl rfl rfl rfl (V_extract rfl rfl rfl) ?_
  refine GT_st rfl rfl rfl rfl (V_extract rfl rfl rfl) ?_
  refine GT_alloc rfl rfl rfl rfl rfl zc_97 (fun _ => GR_nil) (fun b7 => ?_)
  refine GT_store (vs := [_, _, _, _, _]) (l' := [_, _, _, _, _]) rfl rfl rfl rfl rfl rfl rfl sz_97 rfl rfl (Nat.le_of_ble_eq_true rfl) rfl (GR_nil) ?_
  refine GT_st rfl rfl rfl rfl (V_assign rfl rfl) ?_
  refine GT_nil ?_
  refine GE_seq ?_
  refine GE_seq ?_
  refine GE_slots (L' := [(0, _), (7, _), (8, _)]) ⟨rfl, rfl, rfl, trivial⟩ ?_
  refine GE_plain (.st 0 (.st 1 .nil)) rfl ?_
  refine GT_st rfl rfl rfl rfl (V_move rfl rfl) ?_
  first | refine GT_st rfl rfl rfl rfl (V_not rfl rfl) ?_ | refine GT_st rfl rfl rfl rfl (V_notB rfl rfl) ?_
  refine GT_nil ?_
  first | refine GE_condNot rfl (fun h1 => ?_) (fun h1 => ?_) | refine GE_cond rfl (fun h1 => ?_) (fun h1 => ?_) | refine GE_condNotB rfl (fun h1 => ?_) (fun h1 => ?_) | refine GE_condB rfl (fun h1 => ?_) (fun h1 => ?_)
  · skip
    refine GE_seq ?_
    refine GE_slots (L' := []) trivial ?_
    refine GE_plain (.st 0 .nil) rfl ?_
    refine GT_st rfl rfl rfl rfl (V_assign rfl rfl) ?_
    refine GT_nil ?_
    refine GE_ret Try.func46 rfl (fun w hw => ⟨?_, hw.nil⟩)
    unfold keepsL; rw [if_neg (by simp [h1])]
  · skip
    refine GE_skip ?_
    refine GE_seq ?_
    refine GE_plain (.st 0 (.st 1 .nil)) rfl ?_
    refine GT_st rfl rfl rfl rfl (V_assign rfl rfl) ?_
    refine GT_st rfl rfl rfl rfl (V_assign rfl rfl) ?_
    refine GT_nil ?_
    refine GE_cut (ι := Int) (fun x => [(0, ptr cs 0), (7, ptr b7 0), (9, I x), (10, I 0)]) (fun x => [(b7, blk (eEdge (edgeOf b l rule i).1) 97)]) (fun x => x = at' r (edgeOf b l rule i).1.frm ∧ -1152921504606846976 ≤ x ∧ x ≤ 1152921504606846976) ?_ (fun hk => ?_)
    · rintro x ⟨rfl, hx1, hx2⟩
      refine GE_cut (ι := Int) (fun y => [(7, ptr b7 0), (9, I (at' r (edgeOf b l rule i).1.frm)), (10, I y)]) (fun y => [(b7, blk (eEdge (edgeOf b l rule i).1) 97)]) (fun y => y = at' r (edgeOf b l rule i).1.to) ?_ (fun hk2 => ?_)
      · rintro y rfl
        refine GE_seq ?_
        refine GE_plain (.st 0 (.st 1 (.st 2 (.st 3 (.st 4 (.st 5 (.st 6 .nil))))))) rfl ?_
        refine GT_st rfl rfl rfl rfl (V_move rfl rfl) ?_
        refine GT_st rfl rfl rfl rfl (V_move rfl rfl) ?_
        first | refine GT_st rfl rfl rfl rfl (V_field rfl rfl fo_97_3) ?_ | refine GT_st rfl rfl rfl rfl (V_fieldA rfl rfl fo_97_3) ?_
        first | refine GT_st rfl rfl rfl rfl (V_load rfl rfl ag_2 (CellAt.item rfl)) ?_ | refine GT_st rfl rfl rfl rfl (V_load rfl rfl ag_2 (CellAt.old (hcs.cell rfl) (noM _))) ?_
        refine GT_st rfl rfl rfl rfl (V_add rfl rfl rfl (wrap_i64 (by omega))) ?_
        refine GT_st rfl rfl rfl rfl (V_leq rfl rfl rfl) ?_
        refine GT_st rfl rfl rfl rfl (V_assign rfl rfl) ?_
        refine GT_nil ?_
        refine GE_ret Try.func46 rfl (fun w hw => ⟨?_, hw.nil⟩)
        unfold keepsL; rw [if_pos h1]
      · skip
        refine GE_seq ?_
        refine GE_plain (.st 0 (.st 1 (.st 2 .nil))) rfl ?_
        first | refine GT_st rfl rfl rfl rfl (V_field rfl rfl fo_97_2) ?_ | refine GT_st rfl rfl rfl rfl (V_fieldA rfl rfl fo_97_2) ?_
        first | refine GT_st rfl rfl rfl rfl (V_load rfl rfl ag_3 (CellAt.item rfl)) ?_ | refine GT_st rfl rfl rfl rfl (V_load rfl rfl ag_3 (CellAt.old (hcs.cell rfl) (noM _))) ?_
        refine GT_st rfl rfl rfl rfl (V_neq rfl rfl rfl) ?_
        refine GT_nil ?_
        first | refine GE_condNot rfl (fun h3 => ?_) (fun h3 => ?_) | refine GE_cond rfl (fun h3 => ?_) (fun h3 => ?_) | refine GE_condNotB rfl (fun h3 => ?_) (fun h3 => ?_) | refine GE_condB rfl (fun h3 => ?_) (fun h3 => ?_)
        · have ht2 := ht.resolve_left h3 h1; have hr2 := hsm (edgeOf b l rule i).1.to.toNat (by omega)
          refine GE_slots (L' := [(0, _), (7, _), (9, _)]) ⟨rfl, rfl, rfl, trivial⟩ ?_
          refine GE_drawn (.st 0 (.st 1 (.st 2 (.st 3 (.st 4 (.st 5 (.st 6 (.st 7 (.st 8 .nil))))))))) [] (by decide +kernel) ?_
          refine GT_st rfl rfl rfl rfl (V_move rfl rfl) ?_
          first | refine GT_st rfl rfl rfl rfl (V_nilCheck rfl rfl) ?_ | refine GT_st rfl rfl rfl rfl (V_nilCheck_func rfl rfl) ?_ | refine GT_st rfl rfl rfl rfl (V_nilCheck_yield rfl rfl) ?_
          first | refine GT_st rfl rfl rfl rfl (V_field rfl rfl fo_84_1) ?_ | refine GT_st rfl rfl rfl rfl (V_fieldA rfl rfl fo_84_1) ?_
          first | refine GT_st rfl rfl rfl rfl (V_load rfl rfl ag_25 (CellAt.item rfl)) ?_ | refine GT_st rfl rfl rfl rfl (V_load rfl rfl ag_25 (CellAt.old (hcs.cell rfl) (noM _))) ?_
          first | refine GT_st rfl rfl rfl rfl (V_field rfl rfl fo_97_2) ?_ | refine GT_st rfl rfl rfl rfl (V_fieldA rfl rfl fo_97_2) ?_
          first | refine GT_st rfl rfl rfl rfl (V_load rfl rfl ag_3 (CellAt.item rfl)) ?_ | refine GT_st rfl rfl rfl rfl (V_load rfl rfl ag_3 (CellAt.old (hcs.cell rfl) (noM _))) ?_
          refine GT_st rfl rfl rfl rfl (V_index rfl rfl rfl Try.underlying25 sz_2 (k := (edgeOf b l rule i).1.to.toNat) (by omega) (by omega) (hr.isSome (k := (edgeOf b l rule i).1.to.toNat) (by omega))) ?_
          refine GT_st rfl rfl rfl rfl (V_load rfl rfl ag_2 (hr.at0 noM (by omega) rfl)) ?_
          refine GT_st rfl rfl rfl rfl (V_assign rfl rfl) ?_
          refine GT_nil ?_
          first | exact GE_to (hk2 _ (at'_in h3).symm) ⟨rfl, rfl, rfl, trivial⟩ (HS.cons rfl HS.nil) | exact GE_to (hk2 _ (at'_rim h3).symm) ⟨rfl, rfl, rfl, trivial⟩ (HS.cons rfl HS.nil)
        · skip
          refine GE_skip ?_
          first | exact GE_to (hk2 _ (at'_in h3).symm) ⟨rfl, rfl, rfl, trivial⟩ (HS.cons rfl HS.nil) | exact GE_to (hk2 _ (at'_rim h3).symm) ⟨rfl, rfl, rfl, trivial⟩ (HS.cons rfl HS.nil)
    · skip
      refine GE_seq ?_
      refine GE_plain (.st 0 (.st 1 (.st 2 .nil))) rfl ?_
      first | refine GT_st rfl rfl rfl rfl (V_field rfl rfl fo_97_1) ?_ | refine GT_st rfl rfl rfl rfl (V_fieldA rfl rfl fo_97_1) ?_
      first | refine GT_st rfl rfl rfl rfl (V_load rfl rfl ag_3 (CellAt.item rfl)) ?_ | refine GT_st rfl rfl rfl rfl (V_load rfl rfl ag_3 (CellAt.old (hcs.cell rfl) (noM _))) ?_
      refine GT_st rfl rfl rfl rfl (V_neq rfl rfl rfl) ?_
      refine GT_nil ?_
      first | refine GE_condNot rfl (fun h2 => ?_) (fun h2 => ?_) | refine GE_cond rfl (fun h2 => ?_) (fun h2 => ?_) | refine GE_condNotB rfl (fun h2 => ?_) (fun h2 => ?_) | refine GE_condB rfl (fun h2 => ?_) (fun h2 => ?_)
      · have hf2 := hf.resolve_left h2 h1; have hr1 := hsm (edgeOf b l rule i).1.frm.toNat (by omega)
        refine GE_slots (L' := [(0, _), (7, _), (10, _)]) ⟨rfl, rfl, rfl, trivial⟩ ?_
        refine GE_drawn (.st 0 (.st 1 (.st 2 (.st 3 (.st 4 (.st 5 (.st 6 (.st 7 (.st 8 .nil))))))))) [] (by decide +kernel) ?_
        refine GT_st rfl rfl rfl rfl (V_move rfl rfl) ?_
        first | refine GT_st rfl rfl rfl rfl (V_nilCheck rfl rfl) ?_ | refine GT_st rfl rfl rfl rfl (V_nilCheck_func rfl rfl) ?_ | refine GT_st rfl rfl rfl rfl (V_nilCheck_yield rfl rfl) ?_
        first | refine GT_st rfl rfl rfl rfl (V_field rfl rfl fo_84_1) ?_ | refine GT_st rfl rfl rfl rfl (V_fieldA rfl rfl fo_84_1) ?_
        first | refine GT_st rfl rfl rfl rfl (V_load rfl rfl ag_25 (CellAt.item rfl)) ?_ | refine GT_st rfl rfl rfl rfl (V_load rfl rfl ag_25 (CellAt.old (hcs.cell rfl) (noM _))) ?_
        first | refine GT_st rfl rfl rfl rfl (V_field rfl rfl fo_97_1) ?_ | refine GT_st rfl rfl rfl rfl (V_fieldA rfl rfl fo_97_1) ?_
        first | refine GT_st rfl rfl rfl rfl (V_load rfl rfl ag_3 (CellAt.item rfl)) ?_ | refine GT_st rfl rfl rfl rfl (V_load rfl rfl ag_3 (CellAt.old (hcs.cell rfl) (noM _))) ?_
        refine GT_st rfl rfl rfl rfl (V_index rfl rfl rfl Try.underlying25 sz_2 (k := (edgeOf b l rule i).1.frm.toNat) (by omega) (by omega) (hr.isSome (k := (edgeOf b l rule i).1.frm.toNat) (by omega))) ?_
        refine GT_st rfl rfl rfl rfl (V_load rfl rfl ag_2 (hr.at0 noM (by omega) rfl)) ?_
        refine GT_st rfl rfl rfl rfl (V_assign rfl rfl) ?_
        refine GT_nil ?_
        first | exact GE_to (hk _ ⟨(at'_in h2).symm, by omega, by omega⟩) ⟨rfl, rfl, rfl, rfl, trivial⟩ (HS.cons rfl HS.nil) | exact GE_to (hk _ ⟨(at'_rim h2).symm, by omega, by omega⟩) ⟨rfl, rfl, rfl, rfl, trivial⟩ (HS.cons rfl HS.nil)
      · skip
        refine GE_skip ?_
        first | exact GE_to (hk _ ⟨(at'_in h2).symm, by omega, by omega⟩) ⟨rfl, rfl, rfl, rfl, trivial⟩ (HS.cons rfl HS.nil) | exact GE_to (hk _ ⟨(at'_rim h2).symm, by omega, by omega⟩) ⟨rfl, rfl, rfl, rfl, trivial⟩ (HS.cons rfl HS.nil)
end Go.Proofs.Ytacmnmcaeflflaa
