/- The file of a take: the program's Pack, walked. -/
import Derived.Test.YtdcjgjopmicidaaDoorTcA
import Derived.Test.YtdcjgjopmicidaaDoorTbB
namespace Go.Proofs.YtdcjgjopmicidaaDoor
open Go.Sx Go.Proofs Go.RowKit

section
abbrev fblk (bs : List UInt8) (A : Option Addr) (c : Nat) : Obj := blk [.int .u32 (adl cs0 bs).1, .int .u32 (adl cs0 bs).2, .slice A bs.length c] 53
abbrev OwnB (bs : List UInt8) (y : Option Addr × Nat × Items) : Prop := Own 1 5 eU bs (.slice y.1 bs.length y.2.1) y.2.2
variable {w w0 : World} {b : Nat} {H1 : Items} {A A' : Option Addr} {c c' : Nat} {J1 : Items} {l bs : List UInt8}
theorem C_writeF (m : SH w0 none' ((b, fblk bs A' c') :: (J1 ++ H1)) w) (hO : Own 1 5 eU bs (.slice A' bs.length c') J1) (hl : ∀ w, SH w0 none' H1 w → RdL w 1 eU A l) (hn : bs.length + l.length ≤ 1000000) :
    Ret Tryd.prog 15 [ptr b 0, .slice A l.length c].toArray w fun r w' => ∃ y : Option Addr × Nat × Items, OwnB (bs ++ l) y ∧ r = .tuple #[] ∧ SH w0 none' ((b, fblk (bs ++ l) y.1 y.2.1) :: (y.2.2 ++ H1)) w' := by
  refine (C_write (c := c) m (csIn_adl csIn0) hO hl hn).mono ?_
  rintro v w' ⟨y, h1, h2, h3⟩
  exact ⟨y, h1, h2, by rw [← adl_app] at h3; exact h3⟩
theorem C_two {n : Int} (m : SH w0 none' ((b, fblk bs A' c') :: (J1 ++ H1)) w) (hO : Own 1 5 eU bs (.slice A' bs.length c') J1) (hn : bs.length ≤ 900000) :
    Ret Tryd.prog 16 [ptr b 0, I n].toArray w fun r w' => ∃ y : Option Addr × Nat × Items, OwnB (bs ++ two n) y ∧ r = .tuple #[] ∧ SH w0 none' ((b, fblk (bs ++ two n) y.1 y.2.1) :: (y.2.2 ++ H1)) w' := by
  refine Ret_ofH (vs := [_, _]) hm none' Tryd.func16 rfl Tryd.ntmps16 rfl m ?_
  dsimp only [slotsOf]
  refine GE_plain (.st 0 (.st 1 (.st 2 (.st 3 (.st 4 (.st 5 (.ld 6 [] (.ld 7 [] .nil)))))))) rfl ?_
  refine GT_st rfl rfl rfl rfl (V_move rfl rfl) ?_
  refine GT_st rfl rfl rfl rfl (V_move rfl rfl) ?_
  refine GT_st rfl rfl rfl rfl (V_shr (s := 8) (d := 256) rfl rfl rfl (by decide) (by decide)) ?_
  refine GT_st rfl rfl rfl rfl (V_convII rfl rfl (by rw [Tryd.underlying2]; rfl) Tryd.underlying5 (wrap_by8 _)) ?_
  refine GT_st rfl rfl rfl rfl (V_move rfl rfl) ?_
  refine GT_st rfl rfl rfl rfl (V_convII rfl rfl (by rw [Tryd.underlying2]; rfl) Tryd.underlying5 (wrap_by8 _)) ?_
  refine GT_buildSlice (z := [_, _]) rfl rfl rfl rfl rfl Tryd.underlying25 zc_5 sz_5 (by decide) rfl rfl (fun _ => GR_nil) (fun b10 => ?_)
  refine GT_callX rfl rfl rfl rfl rfl rfl rfl rfl rn_15 (fun w m => C_writeF (l := [by8 (n / 256), by8 n]) (m.hs (HS.cons rfl (HS.chunk HS.all))) hO (fun w m => RdL.own' m eU_len) (by simp only [List.length_cons, List.length_nil]; omega)) (fun _ _ => GR_nil) (fun y hy => ?_)
  refine GT_nil ?_
  refine GE_end Tryd.func16 rfl (fun w hw => ?_)
  exact ⟨y, hy, rfl, hw.hs (C := cx Tryd.prog hm 0 0 w0 none' fun _ _ => True) (HS.cons rfl (HS.chunk HS.last))⟩
end

def BK (x : TD) (k : Nat) : List UInt8 := hd3 x ++ byz x.1 ++ two x.2.length ++ (x.2.take k).flatMap sby
theorem BK0 (x : TD) : BK x 0 = hd3 x ++ byz x.1 ++ two x.2.length := by simp [BK]
theorem BK_all {x : TD} {k : Nat} (h : x.2.length ≤ k) : BK x k = bod x := by rw [BK, List.take_of_length_le h]; rfl
theorem BK_succ {x : TD} {k : Nat} (h : k < x.2.length) : BK x (k + 1) = BK x k ++ two ((x.2.getD k default).l + 32768) ++ two ((x.2.getD k default).r + 32768) := by
  have e : x.2.take (k + 1) = x.2.take k ++ [x.2.getD k default] := by
    rw [List.take_add_one, List.getD, List.getElem?_eq_getElem h]; rfl
  simp only [BK, e, List.flatMap_append, List.flatMap_cons, List.flatMap_nil, List.append_nil, sby, List.append_assoc]
theorem sby_len (l : List Sam) : (l.flatMap sby).length = 4 * l.length := by
  induction l with
  | nil => rfl
  | cons x l ih => rw [List.flatMap_cons, List.length_append, ih, List.length_cons]; simp only [sby, List.length_append, two_len]; omega
theorem BK_len {x : TD} (ho : TdOk x) (k : Nat) : (BK x k).length ≤ 20000 := by
  have h1 := ho.most; have h2 := ho.nm
  have h3 : (byz x.1).length = x.1.size := byz_len _
  have h4 : (hd3 x).length = 3 := rfl
  rw [BK, List.length_append, List.length_append, List.length_append, sby_len, List.length_take, h3, h4, two_len]; omega
def chV (q : Int × Int) (k : Nat) : Int := if k = 0 then q.2 else q.1
def chT (q : Int × Int) : Nat → List UInt8
  | 0 => []
  | k + 1 => chT q k ++ two (chV q k)
theorem chT_len (q : Int × Int) : ∀ k, (chT q k).length = 2 * k
  | 0 => rfl
  | k + 1 => by rw [chT, List.length_append, chT_len q k, two_len]; omega
theorem chV_bd {l : List UInt8} {k : Nat} : 0 ≤ chV (adl cs0 l) k ∧ chV (adl cs0 l) k < 65521 := by
  have h := csIn_adl (l := l) csIn0
  unfold csIn at h; unfold chV; split <;> omega
def pkL (x : TD) : List UInt8 := if tkE x = 0 then pkD x else []

set_option maxRecDepth 10000 in
theorem C_Pack {w : World} {t : Tk} (h : RdL w 2 eSam t.A t.data) (hn : t.name.size ≤ maxLen) : Con Tryd.prog 6 [.agg #[.string t.name, .slice t.A t.data.length t.c]] w (fun y : Option Addr × Nat × Items => OwnB (pkL (t.name, t.data)) y)
    (fun y => .tuple #[.slice y.1 (pkL (t.name, t.data)).length y.2.1, I (tErr t)]) (fun y => y.2.2) := by
  refine Ret_of (vs := [_]) hm none' Tryd.func6 rfl Tryd.ntmps6 rfl ?_
  dsimp only [slotsOf]
  refine GE_seq ?_
  refine GE_plain (.ld 0 [] (.st 1 (.st 2 .nil))) rfl ?_
  refine GT_box (z := [_, _]) rfl rfl rfl rfl rfl rfl rfl (fun _ => GR_nil) (fun b1 => ?_)
  refine GT_st rfl rfl rfl rfl (V_assign rfl rfl) ?_
  refine GT_st rfl rfl rfl rfl (V_assign rfl rfl) ?_
  refine GT_nil ?_
  refine GE_seq ?_
  refine GE_seq ?_
  refine GE_plain (.st 0 (.ld 1 [] (.st 2 .nil))) rfl ?_
  refine GT_st rfl rfl rfl rfl (V_loadN (vs := [_, _]) rfl rfl ag_24 sz_24 rfl (CellsAt.item rfl)) ?_
  refine GT_call0 rfl rfl rfl rfl rfl rfl rfl rfl rn_14 (fun w hw => C_checkTake (h.sh hw) hn) (GR_nil) ?_
  refine GT_st rfl rfl rfl rfl (V_assign rfl rfl) ?_
  refine GT_nil ?_
  refine GE_seq ?_
  refine GE_slots (L' := [(1, _), (4, _)]) ⟨rfl, rfl, trivial⟩ ?_
  refine GE_plain (.st 0 (.st 1 .nil)) rfl ?_
  refine GT_st rfl rfl rfl rfl (V_move rfl rfl) ?_
  refine GT_st rfl rfl rfl rfl (V_neq rfl rfl rfl) ?_
  refine GT_nil ?_
  first | refine GE_condNot rfl (fun h1 => ?_) (fun h1 => ?_) | refine GE_cond rfl (fun h1 => ?_) (fun h1 => ?_) | refine GE_condNotB rfl (fun h1 => ?_) (fun h1 => ?_) | refine GE_condB rfl (fun h1 => ?_) (fun h1 => ?_)
  · skip
    refine GE_seq ?_
    refine GE_plain (.st 0 (.st 1 (.st 2 .nil))) rfl ?_
    refine GT_st rfl rfl rfl rfl (V_move rfl rfl) ?_
    refine GT_st rfl rfl rfl rfl (V_assign rfl rfl) ?_
    refine GT_st rfl rfl rfl rfl (V_assign rfl rfl) ?_
    refine GT_nil ?_
    refine GE_ret Tryd.func6 ⟨_, _, rfl, rfl, rfl⟩ (fun w hw => ?_)
    first | (have e : pkL (t.name, t.data) = pkD (t.name, t.data) := if_pos h1; exact ⟨u, by rw [e]; exact hO2, by rw [e, h1]; rfl, hw.hs (C := cx Tryd.prog hm 0 0 _ none' fun _ _ => True) HS.last⟩) | (have e : pkL (t.name, t.data) = [] := if_neg h1; exact ⟨(none, 0, []), by rw [e]; exact Own.nil, by rw [e]; rfl, hw.nil⟩)
  · have ho := tkE_ok (x := (t.name, t.data)) h1; have hm1 : t.data.length ≤ 4096 := ho.most; have hnm : t.name.size ≤ 20 := ho.nm; have hbz : (byz t.name).length = t.name.size := byz_len _
    refine GE_skip ?_
    refine GE_seq ?_
    refine GE_plain (.st 0 (.st 1 (.ld 2 [] (.st 3 .nil)))) rfl ?_
    refine GT_st rfl rfl rfl rfl (V_build (vs := [_, _]) rfl rfl zc_51 pl_51 sa_51 rfl) ?_
    refine GT_st rfl rfl rfl rfl (V_build (vs := [_, _, _]) rfl rfl zc_53 pl_53 sa_53 rfl) ?_
    refine GT_box (z := [_, _, _]) rfl rfl rfl rfl rfl rfl rfl (fun _ => GR_nil) (fun b18 => ?_)
    refine GT_st rfl rfl rfl rfl (V_assign rfl rfl) ?_
    refine GT_nil ?_
    refine GE_seq ?_
    refine GE_slots (L' := [(1, _), (5, _)]) ⟨rfl, rfl, trivial⟩ ?_
    refine GE_plain (.st 0 (.st 1 (.st 2 (.st 3 (.st 4 (.ld 5 [] (.ld 6 [] .nil))))))) rfl ?_
    refine GT_st rfl rfl rfl rfl (V_move rfl rfl) ?_
    first | refine GT_st rfl rfl rfl rfl (V_field rfl rfl fo_24_0) ?_ | refine GT_st rfl rfl rfl rfl (V_fieldA rfl rfl fo_24_0) ?_
    refine GT_st rfl rfl rfl rfl (V_load rfl rfl ag_9 (CellAt.item rfl)) ?_
    refine GT_st rfl rfl rfl rfl (V_len_str rfl Tryd.underlying9 rfl) ?_
    refine GT_st rfl rfl rfl rfl (V_convII rfl rfl (by rw [Tryd.underlying3]; rfl) Tryd.underlying5 (wrap_by8 _)) ?_
    refine GT_buildSlice (z := [_, _, _]) rfl rfl rfl rfl rfl Tryd.underlying25 zc_5 sz_5 (by decide) rfl rfl (fun _ => GR_nil) (fun b24 => ?_)
    refine GT_callX rfl rfl rfl rfl rfl rfl rfl rfl rn_15 (fun w m => C_writeF (l := [84, 75, by8 t.name.size]) (bs := []) (J1 := []) (m.hs (HS.cons rfl HS.all)) Own.nil (fun w m => RdL.own' m eU_len) (by simp only [List.length_cons, List.length_nil]; omega)) (fun _ _ => GR_nil) (fun y25 hy25 => ?_)
    refine GT_nil ?_
    refine GE_seq ?_
    refine GE_slots (L' := [(1, _), (5, _)]) ⟨rfl, rfl, trivial⟩ ?_
    refine GE_plain (.st 0 (.st 1 (.st 2 (.ld 3 [] (.ld 4 [] .nil))))) rfl ?_
    refine GT_st rfl rfl rfl rfl (V_move rfl rfl) ?_
    first | refine GT_st rfl rfl rfl rfl (V_field rfl rfl fo_24_0) ?_ | refine GT_st rfl rfl rfl rfl (V_fieldA rfl rfl fo_24_0) ?_
    refine GT_st rfl rfl rfl rfl (V_load rfl rfl ag_9 (CellAt.item rfl)) ?_
    refine GT_strBytes rfl rfl rfl rfl rfl rfl Tryd.underlying9 Tryd.underlying25 Tryd.underlying5 (fun _ _ _ _ => GR_nil) (fun b29 c29 I29 hI29 => ?_)
    refine GT_callX rfl rfl rfl rfl rfl rfl rfl rfl rn_15 (fun w m => C_writeF (l := byz t.name) (H1 := I29 ++ [(b1, blk [.string t.name, .slice t.A t.data.length t.c] 24)]) (m.hs (HS.cons rfl (HS.chunk (HS.chunk (HS.cons rfl HS.nil))))) hy25 (fun w m => RowB.rd hI29 m) (by rw [hbz]; simp only [List.nil_append, List.length_cons, List.length_nil]; omega)) (fun _ _ => GR_nil) (fun y30 hy30 => ?_)
    refine GT_nil ?_
    refine GE_seq ?_
    refine GE_slots (L' := [(1, _), (5, _)]) ⟨rfl, rfl, trivial⟩ ?_
    refine GE_plain (.st 0 (.st 1 (.st 2 (.st 3 (.ld 4 [] .nil))))) rfl ?_
    refine GT_st rfl rfl rfl rfl (V_move rfl rfl) ?_
    first | refine GT_st rfl rfl rfl rfl (V_field rfl rfl fo_24_1) ?_ | refine GT_st rfl rfl rfl rfl (V_fieldA rfl rfl fo_24_1) ?_
    refine GT_st rfl rfl rfl rfl (V_load rfl rfl ag_22 (CellAt.item rfl)) ?_
    refine GT_st rfl rfl rfl rfl (V_len rfl Tryd.underlying22 rfl) ?_
    refine GT_callX rfl rfl rfl rfl rfl rfl rfl rfl rn_16 (fun w m => C_two (H1 := [(b1, blk [.string t.name, .slice t.A t.data.length t.c] 24)]) (m.hs (HS.cons rfl (HS.chunk (HS.cons rfl HS.nil)))) hy30 (by simp only [List.nil_append, List.length_append, List.length_cons, List.length_nil, hbz]; omega)) (fun _ _ => GR_nil) (fun y35 hy35 => ?_)
    refine GT_nil ?_
    refine GE_seq ?_
    refine GE_seq ?_
    refine GE_slots (L' := [(1, _), (5, _)]) ⟨rfl, rfl, trivial⟩ ?_
    refine GE_plain (.st 0 (.st 1 (.st 2 (.st 3 .nil)))) rfl ?_
    first | refine GT_st rfl rfl rfl rfl (V_field rfl rfl fo_24_1) ?_ | refine GT_st rfl rfl rfl rfl (V_fieldA rfl rfl fo_24_1) ?_
    refine GT_st rfl rfl rfl rfl (V_load rfl rfl ag_22 (CellAt.item rfl)) ?_
    refine GT_st rfl rfl rfl rfl (V_len rfl Tryd.underlying22 rfl) ?_
    refine GT_st rfl rfl rfl rfl (V_move rfl rfl) ?_
    refine GT_nil ?_
    refine GE_block ?_
    refine GE_to (GE_loop (ι := Nat × (Option Addr × Nat × Items)) (fun z => t.data.length - z.1) (fun z => [(5, ptr b18 0), (37, .slice t.A t.data.length t.c), (38, I t.data.length), (39, I z.1)]) (fun z => (b18, fblk (BK (t.name, t.data) z.1) z.2.1 z.2.2.1) :: (z.2.2.2 ++ [(b1, blk [.string t.name, .slice t.A t.data.length t.c] 24)])) (fun z => z.1 ≤ t.data.length ∧ OwnB (BK (t.name, t.data) z.1) z.2) ?_ (0, y35) ?_) ⟨rfl, rfl, rfl, rfl, trivial⟩ (HS.cons (by dsimp only; rw [BK0]; rfl) (HS.chunk HS.all))
    · rintro ⟨k, y⟩ ⟨hk, hO⟩ ih; dsimp only at hk hO ih ⊢; have hbl := BK_len ho k
      refine GE_seq ?_
      refine GE_plain (.st 0 .nil) rfl ?_
      refine GT_st rfl rfl rfl rfl (V_lss rfl rfl rfl) ?_
      refine GT_nil ?_
      refine GE_seq ?_
      first | refine GE_condNot rfl (fun h2 => ?_) (fun h2 => ?_) | refine GE_cond rfl (fun h2 => ?_) (fun h2 => ?_) | refine GE_condNotB rfl (fun h2 => ?_) (fun h2 => ?_) | refine GE_condB rfl (fun h2 => ?_) (fun h2 => ?_)
      · have hkl : k < t.data.length := (by omega); have hok := Sam.ok_iff.1 (ho.each _ (getD_mem (l := t.data) hkl))
        refine GE_skip ?_
        refine GE_seq ?_
        refine GE_block ?_
        refine GE_seq ?_
        refine GE_plain (.st 0 (.st 1 (.ld 2 [] (.ld 3 [] .nil)))) rfl ?_
        refine GT_st rfl rfl rfl rfl (V_index rfl rfl rfl Tryd.underlying22 sz_45 (k := k) rfl hkl (h.isSome hkl)) ?_
        refine GT_st rfl rfl rfl rfl (V_loadN (vs := [_, _]) rfl rfl ag_45 sz_45 rfl (h.ats noM hkl)) ?_
        refine GT_alloc rfl rfl rfl rfl rfl zc_45 (fun _ => GR_nil) (fun b7 => ?_)
        refine GT_store (vs := [_, _]) (l' := [_, _]) rfl rfl rfl rfl rfl rfl rfl sz_45 rfl rfl (Nat.le_of_ble_eq_true rfl) rfl (GR_nil) ?_
        refine GT_nil ?_
        refine GE_seq ?_
        refine GE_plain (.st 0 (.st 1 (.st 2 (.st 3 (.ld 4 [] .nil))))) rfl ?_
        refine GT_st rfl rfl rfl rfl (V_move rfl rfl) ?_
        first | refine GT_st rfl rfl rfl rfl (V_field rfl rfl fo_45_0) ?_ | refine GT_st rfl rfl rfl rfl (V_fieldA rfl rfl fo_45_0) ?_
        refine GT_st rfl rfl rfl rfl (V_load rfl rfl ag_2 (CellAt.item rfl)) ?_
        refine GT_st rfl rfl rfl rfl (V_add rfl rfl rfl (wrap_i64 (by omega))) ?_
        refine GT_callX rfl rfl rfl rfl rfl rfl rfl rfl rn_16 (fun w m => C_two (m.hs (HS.cons rfl (HS.chunk HS.all))) hO (by omega)) (fun _ _ => GR_nil) (fun y47 hy47 => ?_)
        refine GT_nil ?_
        refine GE_slots (L' := [(5, _), (7, _), (37, _), (38, _), (39, _)]) ⟨rfl, rfl, rfl, rfl, rfl, trivial⟩ ?_
        refine GE_plain (.st 0 (.st 1 (.st 2 (.st 3 (.ld 4 [] .nil))))) rfl ?_
        refine GT_st rfl rfl rfl rfl (V_move rfl rfl) ?_
        first | refine GT_st rfl rfl rfl rfl (V_field rfl rfl fo_45_1) ?_ | refine GT_st rfl rfl rfl rfl (V_fieldA rfl rfl fo_45_1) ?_
        refine GT_st rfl rfl rfl rfl (V_load rfl rfl ag_2 (CellAt.item rfl)) ?_
        refine GT_st rfl rfl rfl rfl (V_add rfl rfl rfl (wrap_i64 (by omega))) ?_
        refine GT_callX rfl rfl rfl rfl rfl rfl rfl rfl rn_16 (fun w m => C_two (m.hs (HS.cons rfl (HS.chunk HS.all))) hy47 (by rw [List.length_append, two_len]; omega)) (fun _ _ => GR_nil) (fun y52 hy52 => ?_)
        refine GT_nil ?_
        refine GE_inBlock ?_
        refine GE_slots (L' := [(5, _), (37, _), (38, _), (39, _)]) ⟨rfl, rfl, rfl, rfl, trivial⟩ ?_
        refine GE_plain (.st 0 (.ld 1 [] .nil)) rfl ?_
        refine GT_st rfl rfl rfl rfl (V_add rfl rfl rfl (wrap_i64 (by omega))) ?_
        refine GT_ldv rfl rfl rfl rfl rfl (V_move rfl rfl) (GR_nil) ?_
        refine GT_nil ?_
        have eB := BK_succ (x := (t.name, t.data)) hkl; rw [← eB] at hy52 ⊢; exact GE_to (ih (k + 1, y52) ⟨by dsimp only; omega, hy52⟩ (by dsimp only; omega)) ⟨rfl, rfl, rfl, rfl, trivial⟩ (HS.cons rfl (HS.chunk HS.last))
      · have eA : BK (t.name, t.data) k = bod (t.name, t.data) := BK_all (by dsimp only; omega); rw [eA] at hO hbl ⊢
        refine GE_exit rfl ?_
        refine GE_seq ?_
        refine GE_slots (L' := [(5, _)]) ⟨rfl, trivial⟩ ?_
        refine GE_plain (.st 0 (.st 1 (.st 2 (.st 3 (.ld 4 [] (.ld 5 [] .nil)))))) rfl ?_
        refine GT_st rfl rfl rfl rfl (V_move rfl rfl) ?_
        first | refine GT_st rfl rfl rfl rfl (V_nilCheck rfl rfl) ?_ | refine GT_st rfl rfl rfl rfl (V_nilCheck_func rfl rfl) ?_ | refine GT_st rfl rfl rfl rfl (V_nilCheck_yield rfl rfl) ?_
        first | refine GT_st rfl rfl rfl rfl (V_field rfl rfl fo_53_0) ?_ | refine GT_st rfl rfl rfl rfl (V_fieldA rfl rfl fo_53_0) ?_
        refine GT_st rfl rfl rfl rfl (V_loadN (vs := [_, _]) rfl rfl ag_51 sz_51 rfl (CellsAt.item rfl)) ?_
        refine GT_alloc rfl rfl rfl rfl rfl zc_51 (fun _ => GR_nil) (fun b8 => ?_)
        refine GT_store (vs := [_, _]) (l' := [_, _]) rfl rfl rfl rfl rfl rfl rfl sz_51 rfl rfl (Nat.le_of_ble_eq_true rfl) rfl (GR_nil) ?_
        refine GT_nil ?_
        refine GE_seq ?_
        refine GE_seq ?_
        refine GE_slots (L' := [(5, _), (8, _)]) ⟨rfl, rfl, trivial⟩ ?_
        refine GE_plain (.st 0 (.st 1 (.st 2 (.st 3 (.st 4 (.st 5 .nil)))))) rfl ?_
        first | refine GT_st rfl rfl rfl rfl (V_field rfl rfl fo_51_1) ?_ | refine GT_st rfl rfl rfl rfl (V_fieldA rfl rfl fo_51_1) ?_
        refine GT_st rfl rfl rfl rfl (V_load rfl rfl ag_49 (CellAt.item rfl)) ?_
        first | refine GT_st rfl rfl rfl rfl (V_field rfl rfl fo_51_0) ?_ | refine GT_st rfl rfl rfl rfl (V_fieldA rfl rfl fo_51_0) ?_
        refine GT_st rfl rfl rfl rfl (V_load rfl rfl ag_49 (CellAt.item rfl)) ?_
        refine GT_st rfl rfl rfl rfl (V_build (vs := [_, _]) rfl rfl zc_56 pl_56 sa_56 rfl) ?_
        refine GT_st rfl rfl rfl rfl (V_move rfl rfl) ?_
        refine GT_nil ?_
        refine GE_block ?_
        refine GE_to (GE_loop (ι := Nat × (Option Addr × Nat × Items)) (fun z => 2 - z.1) (fun z => [(5, ptr b18 0), (62, .agg #[.int .u32 (adl cs0 (bod (t.name, t.data))).2, .int .u32 (adl cs0 (bod (t.name, t.data))).1]), (63, I z.1)]) (fun z => (b18, fblk (bod (t.name, t.data) ++ chT (adl cs0 (bod (t.name, t.data))) z.1) z.2.1 z.2.2.1) :: z.2.2.2) (fun z => z.1 ≤ 2 ∧ OwnB (bod (t.name, t.data) ++ chT (adl cs0 (bod (t.name, t.data))) z.1) z.2) ?_ (0, y) ?_) ⟨rfl, rfl, rfl, trivial⟩ (HS.cons (by dsimp only [chT]; rw [List.append_nil]) HS.last)
        · rintro ⟨j, u⟩ ⟨hj, hO2⟩ ih2; dsimp only at hj hO2 ih2 ⊢; have hcl := chT_len (adl cs0 (bod (t.name, t.data))) j
          refine GE_seq ?_
          refine GE_plain (.st 0 .nil) rfl ?_
          refine GT_st rfl rfl rfl rfl (V_lss rfl rfl rfl) ?_
          refine GT_nil ?_
          refine GE_seq ?_
          first | refine GE_condNot rfl (fun h3 => ?_) (fun h3 => ?_) | refine GE_cond rfl (fun h3 => ?_) (fun h3 => ?_) | refine GE_condNotB rfl (fun h3 => ?_) (fun h3 => ?_) | refine GE_condB rfl (fun h3 => ?_) (fun h3 => ?_)
          · have hvb := chV_bd (l := bod (t.name, t.data)) (k := j)
            refine GE_skip ?_
            refine GE_seq ?_
            refine GE_block ?_
            refine GE_seq ?_
            refine GE_plain (.st 0 (.st 1 .nil)) rfl ?_
            refine GT_st rfl rfl rfl rfl (V_indexAgg rfl rfl rfl Tryd.underlying56 ag_49 sz_49 (kk := j) rfl (by omega) (show _ = some (.int .u32 (chV (adl cs0 (bod (t.name, t.data))) j)) by rcases (show j = 0 ∨ j = 1 by omega) with rfl | rfl <;> rfl)) ?_
            refine GT_st rfl rfl rfl rfl (V_assign rfl rfl) ?_
            refine GT_nil ?_
            refine GE_plain (.st 0 (.st 1 (.st 2 (.ld 3 [] .nil)))) rfl ?_
            refine GT_st rfl rfl rfl rfl (V_move rfl rfl) ?_
            refine GT_st rfl rfl rfl rfl (V_move rfl rfl) ?_
            refine GT_st rfl rfl rfl rfl (V_convII rfl rfl (by rw [Tryd.underlying49]; rfl) Tryd.underlying2 (wrap_i64 (by omega))) ?_
            refine GT_callX rfl rfl rfl rfl rfl rfl rfl rfl rn_16 (fun w m => C_two (H1 := []) (m.hs (HS.cons rfl (HS.chunk HS.nil))) hO2 (by rw [List.length_append]; omega)) (fun _ _ => GR_nil) (fun y69 hy69 => ?_)
            refine GT_nil ?_
            refine GE_inBlock ?_
            refine GE_slots (L' := [(5, _), (62, _), (63, _)]) ⟨rfl, rfl, rfl, trivial⟩ ?_
            refine GE_plain (.st 0 (.ld 1 [] .nil)) rfl ?_
            refine GT_st rfl rfl rfl rfl (V_add rfl rfl rfl (wrap_i64 (by omega))) ?_
            refine GT_ldv rfl rfl rfl rfl rfl (V_move rfl rfl) (GR_nil) ?_
            refine GT_nil ?_
            rw [List.append_assoc] at hy69 ⊢; exact GE_to (ih2 (j + 1, y69) ⟨by dsimp only; omega, hy69⟩ (by dsimp only; omega)) ⟨rfl, rfl, rfl, trivial⟩ (HS.cons rfl HS.last)
          · obtain rfl : j = 2 := (by omega)
            refine GE_exit rfl ?_
            refine GE_seq ?_
            refine GE_plain (.st 0 (.st 1 (.st 2 (.st 3 (.st 4 (.st 5 .nil)))))) rfl ?_
            refine GT_st rfl rfl rfl rfl (V_move rfl rfl) ?_
            first | refine GT_st rfl rfl rfl rfl (V_nilCheck rfl rfl) ?_ | refine GT_st rfl rfl rfl rfl (V_nilCheck_func rfl rfl) ?_ | refine GT_st rfl rfl rfl rfl (V_nilCheck_yield rfl rfl) ?_
            first | refine GT_st rfl rfl rfl rfl (V_field rfl rfl fo_53_1) ?_ | refine GT_st rfl rfl rfl rfl (V_fieldA rfl rfl fo_53_1) ?_
            refine GT_st rfl rfl rfl rfl (V_load rfl rfl ag_25 (CellAt.item rfl)) ?_
            refine GT_st rfl rfl rfl rfl (V_assign rfl rfl) ?_
            refine GT_st rfl rfl rfl rfl (V_assign rfl rfl) ?_
            refine GT_nil ?_
            refine GE_ret Tryd.func6 ⟨_, _, rfl, rfl, rfl⟩ (fun w hw => ?_)
            first | (have e : pkL (t.name, t.data) = pkD (t.name, t.data) := if_pos h1; exact ⟨u, by rw [e]; exact hO2, by rw [e, h1]; rfl, hw.hs (C := cx Tryd.prog hm 0 0 _ none' fun _ _ => True) HS.last⟩) | (have e : pkL (t.name, t.data) = [] := if_neg h1; exact ⟨(none, 0, []), by rw [e]; exact Own.nil, by rw [e]; rfl, hw.nil⟩)
        · exact ⟨Nat.zero_le _, by dsimp only [chT]; rw [List.append_nil]; exact hO⟩
    · exact ⟨Nat.zero_le _, by dsimp only; rw [BK0]; exact hy35⟩
end Go.Proofs.YtdcjgjopmicidaaDoor
