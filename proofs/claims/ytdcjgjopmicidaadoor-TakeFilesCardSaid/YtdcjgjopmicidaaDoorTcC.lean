/- The file of a take: the document's Pack, walked. -/
import Derived.Test.YtdcjgjopmicidaaDoorTcB
namespace Go.Proofs.YtdcjgjopmicidaaDoor
open Go.Sx Go.Proofs Go.RowKit

def beR (n : Int) (many : Nat) : Nat → List UInt8
  | 0 => []
  | j + 1 => beR n many j ++ [by8 (n / 2 ^ (8 * (many - 1 - j)))]
theorem be2 (n : Int) : beR n 2 2 = two n := by
  show [by8 (n / 256), by8 (n / 1)] = [by8 (n / 256), by8 n]
  rw [Int.ediv_one]
theorem by8_eq {a b : Int} (h : a % 256 = b % 256) : by8 a = by8 b := by unfold by8; rw [h]
theorem be4 {a b : Int} (h : 0 ≤ b ∧ b < 65536) : beR (65536 * a + b) 4 4 = two a ++ two b := by
  show [by8 ((65536 * a + b) / 16777216), by8 ((65536 * a + b) / 65536), by8 ((65536 * a + b) / 256), by8 ((65536 * a + b) / 1)] = [by8 (a / 256), by8 a, by8 (b / 256), by8 b]
  rw [Int.ediv_one, by8_eq (a := (65536 * a + b) / 16777216) (b := a / 256) (by omega), by8_eq (a := (65536 * a + b) / 65536) (b := a) (by omega), by8_eq (a := (65536 * a + b) / 256) (b := b / 256) (by omega), by8_eq (a := 65536 * a + b) (b := b) (by omega)]
theorem beR_len (n : Int) (many : Nat) : ∀ j, (beR n many j).length = j
  | 0 => rfl
  | j + 1 => by rw [beR, List.length_append, beR_len n many j]; rfl

section
variable {w w0 : World} {H1 J1 : Items} {A A' : Option Addr} {c c' : Nat} {l bs : List UInt8}
theorem C_put {n : Int} {many : Nat} (m : SH w0 none' (J1 ++ H1) w) (hO : Own 1 5 eU bs (.slice A' bs.length c') J1) (hn : bs.length ≤ 900000) (hmy : 1 ≤ many ∧ many ≤ 4) :
    Ret Tryd.prog 18 [.slice A' bs.length c', I n, I many].toArray w fun r w' => ∃ y : Option Addr × Nat × Items, OwnB (bs ++ beR n many many) y ∧ r = .slice y.1 (bs ++ beR n many many).length y.2.1 ∧ SH w0 none' (y.2.2 ++ H1) w' := by
  refine Ret_ofH (vs := [_, _, _]) hm none' Tryd.func18 rfl Tryd.ntmps18 rfl m ?_
  dsimp only [slotsOf]
  refine GE_seq ?_
  refine GE_plain (.st 0 .nil) rfl ?_
  refine GT_st rfl rfl rfl rfl (V_assign rfl rfl) ?_
  refine GT_nil ?_
  refine GE_seq ?_
  refine GE_seq ?_
  refine GE_plain (.st 0 (.st 1 (.st 2 .nil))) rfl ?_
  refine GT_st rfl rfl rfl rfl (V_move rfl rfl) ?_
  refine GT_st rfl rfl rfl rfl (V_sub rfl rfl rfl (wrap_i64 (by omega))) ?_
  refine GT_st rfl rfl rfl rfl (V_assign rfl rfl) ?_
  refine GT_nil ?_
  refine GE_block ?_
  refine GE_to (GE_loop (ι := Nat × (Option Addr × Nat × Items)) (fun z => many - z.1) (fun z => [(0, .slice z.2.1 (bs ++ beR n many z.1).length z.2.2.1), (1, I n), (7, I ((many : Int) - 1 - z.1))]) (fun z => z.2.2.2 ++ H1) (fun z => z.1 ≤ many ∧ OwnB (bs ++ beR n many z.1) z.2) ?_ (0, (A', c', J1)) ?_) ⟨lookS rfl (by dsimp only; rw [show bs ++ beR n many 0 = bs from List.append_nil _]), rfl, lookI rfl (by dsimp only; omega), trivial⟩ HS.all
  · rintro ⟨j, y⟩ ⟨hj, hO2⟩ ih; dsimp only at hj hO2 ih ⊢; have hbl := beR_len n many j
    refine GE_seq ?_
    refine GE_seq ?_
    refine GE_plain (.st 0 (.st 1 .nil)) rfl ?_
    refine GT_st rfl rfl rfl rfl (V_move rfl rfl) ?_
    refine GT_st rfl rfl rfl rfl (V_geq rfl rfl rfl) ?_
    refine GT_nil ?_
    first | refine GE_condNot rfl (fun h1 => ?_) (fun h1 => ?_) | refine GE_cond rfl (fun h1 => ?_) (fun h1 => ?_) | refine GE_condNotB rfl (fun h1 => ?_) (fun h1 => ?_) | refine GE_condB rfl (fun h1 => ?_) (fun h1 => ?_)
    · skip
      refine GE_skip ?_
      refine GE_seq ?_
      refine GE_block ?_
      refine GE_plain (.st 0 (.st 1 (.st 2 (.st 3 (.st 4 (.st 5 (.ld 6 [] (.ld 7 [] (.ld 8 [] .nil))))))))) rfl ?_
      refine GT_st rfl rfl rfl rfl (V_move rfl rfl) ?_
      refine GT_st rfl rfl rfl rfl (V_move rfl rfl) ?_
      refine GT_st rfl rfl rfl rfl (V_move rfl rfl) ?_
      refine GT_st rfl rfl rfl rfl (V_mul rfl rfl rfl ((wrap_i64 (by omega)).trans (show _ = ((8 * (many - 1 - j) : Nat) : Int) by omega))) ?_
      refine GT_st rfl rfl rfl rfl (V_shr (s := 8 * (many - 1 - j)) (d := 2 ^ (8 * (many - 1 - j))) rfl rfl rfl (by show _ ≤ 64; omega) rfl) ?_
      refine GT_st rfl rfl rfl rfl (V_convII rfl rfl (by rw [Tryd.underlying2]; rfl) Tryd.underlying5 (wrap_by8 _)) ?_
      refine GT_buildSlice (z := [_]) rfl rfl rfl rfl rfl Tryd.underlying25 zc_5 sz_5 (by decide) rfl rfl (fun _ => GR_nil) (fun b20 => ?_)
      refine GT_append (enc := eU) (m := [by8 (n / 2 ^ (8 * (many - 1 - j)))]) rfl rfl rfl rfl rfl rfl rfl hO2 (fun w m => RdL.own' m eU_len) Tryd.underlying25 zc_5 sz_5 ⟨rfl, by decide⟩ by_5 ⟨by simp only [List.length_append, List.length_singleton, hbl]; omega, by simp only [List.length_append, List.length_singleton, hbl]; omega⟩ eU_len eU_one (fun _ _ _ _ => GR_nil) (fun A3 c3 I3 hO3 => ?_)
      refine GT_ldv rfl rfl rfl rfl rfl (V_assign rfl rfl) (GR_nil) ?_
      refine GT_nil ?_
      refine GE_inBlock ?_
      refine GE_slots (L' := [(0, _), (1, _), (7, _)]) ⟨rfl, rfl, rfl, trivial⟩ ?_
      refine GE_plain (.st 0 (.st 1 (.ld 2 [] .nil))) rfl ?_
      refine GT_st rfl rfl rfl rfl (V_move rfl rfl) ?_
      refine GT_st rfl rfl rfl rfl (V_sub rfl rfl rfl (wrap_i64 (by omega))) ?_
      refine GT_ldv rfl rfl rfl rfl rfl (V_assign rfl rfl) (GR_nil) ?_
      refine GT_nil ?_
      rw [List.append_assoc] at hO3 ⊢; exact GE_to (ih (j + 1, (A3, c3, I3)) ⟨by dsimp only; omega, hO3⟩ (by dsimp only; omega)) ⟨rfl, rfl, lookI rfl (by dsimp only; omega), trivial⟩ (HS.chunk HS.last)
    · obtain rfl : j = many := (by omega)
      refine GE_exit rfl ?_
      refine GE_seq ?_
      refine GE_slots (L' := [(0, _)]) ⟨rfl, trivial⟩ ?_
      refine GE_plain (.st 0 (.st 1 .nil)) rfl ?_
      refine GT_st rfl rfl rfl rfl (V_move rfl rfl) ?_
      refine GT_st rfl rfl rfl rfl (V_assign rfl rfl) ?_
      refine GT_nil ?_
      refine GE_ret Tryd.func18 rfl (fun w hw => ?_)
      exact ⟨y, hO2, rfl, hw⟩
  · exact ⟨Nat.zero_le _, by dsimp only; rw [show bs ++ beR n many 0 = bs from List.append_nil _]; exact hO⟩
theorem C_Sum (hl : RdL w 1 eU A l) (hn : l.length ≤ 1000000) : Con0 Tryd.prog 19 [.slice A l.length c] w (I (65536 * (adl cs0 l).2 + (adl cs0 l).1)) := by
  refine Ret_of (vs := [_]) hm none' Tryd.func19 rfl Tryd.ntmps19 rfl ?_
  dsimp only [slotsOf]
  refine GE_seq ?_
  refine GE_plain (.st 0 .nil) rfl ?_
  refine GT_st rfl rfl rfl rfl (V_assign rfl rfl) ?_
  refine GT_nil ?_
  refine GE_seq ?_
  refine GE_plain (.st 0 (.st 1 .nil)) rfl ?_
  refine GT_st rfl rfl rfl rfl (V_assign rfl rfl) ?_
  refine GT_st rfl rfl rfl rfl (V_assign rfl rfl) ?_
  refine GT_nil ?_
  refine GE_seq ?_
  refine GE_seq ?_
  refine GE_plain (.st 0 .nil) rfl ?_
  refine GT_st rfl rfl rfl rfl (V_assign rfl rfl) ?_
  refine GT_nil ?_
  refine GE_block ?_
  refine GE_to (GE_loop (ι := Nat) (fun j => l.length - j) (fun j => [(0, .slice A l.length c), (3, I (adl cs0 (l.take j)).1), (4, I (adl cs0 (l.take j)).2), (5, I j)]) (fun j => []) (fun j => j ≤ l.length) ?_ 0 ?_) ⟨rfl, rfl, rfl, rfl, trivial⟩ HS.all
  · intro j hj ih; have hci := csIn_adl (l := l.take j) csIn0; unfold csIn at hci
    refine GE_seq ?_
    refine GE_seq ?_
    refine GE_plain (.st 0 (.st 1 (.st 2 (.st 3 .nil)))) rfl ?_
    refine GT_st rfl rfl rfl rfl (V_move rfl rfl) ?_
    refine GT_st rfl rfl rfl rfl (V_move rfl rfl) ?_
    refine GT_st rfl rfl rfl rfl (V_len rfl Tryd.underlying25 rfl) ?_
    refine GT_st rfl rfl rfl rfl (V_lss rfl rfl rfl) ?_
    refine GT_nil ?_
    first | refine GE_condNot rfl (fun h1 => ?_) (fun h1 => ?_) | refine GE_cond rfl (fun h1 => ?_) (fun h1 => ?_) | refine GE_condNotB rfl (fun h1 => ?_) (fun h1 => ?_) | refine GE_condB rfl (fun h1 => ?_) (fun h1 => ?_)
    · have hjl : j < l.length := (by omega); have hx := (l.getD j default).toNat_lt; have e1 : ((adl cs0 (l.take j)).1 + ((l.getD j default).toNat : Int)).tmod 65521 = ((adl cs0 (l.take j)).1 + (l.getD j default).toNat) % 65521 := Int.tmod_eq_emod_of_nonneg (by omega); have e2 : ((adl cs0 (l.take j)).2 + ((adl cs0 (l.take j)).1 + ((l.getD j default).toNat : Int)).tmod 65521).tmod 65521 = ((adl cs0 (l.take j)).2 + ((adl cs0 (l.take j)).1 + (l.getD j default).toNat) % 65521) % 65521 := (by rw [e1]; exact Int.tmod_eq_emod_of_nonneg (by omega))
      refine GE_skip ?_
      refine GE_seq ?_
      refine GE_block ?_
      refine GE_seq ?_
      refine GE_slots (L' := [(0, _), (3, _), (4, _), (5, _)]) ⟨rfl, rfl, rfl, rfl, trivial⟩ ?_
      refine GE_plain (.st 0 (.st 1 (.st 2 (.st 3 (.st 4 (.st 5 (.st 6 (.st 7 (.ld 8 [] .nil))))))))) rfl ?_
      refine GT_st rfl rfl rfl rfl (V_move rfl rfl) ?_
      refine GT_st rfl rfl rfl rfl (V_move rfl rfl) ?_
      refine GT_st rfl rfl rfl rfl (V_move rfl rfl) ?_
      refine GT_st rfl rfl rfl rfl (V_index rfl rfl rfl Tryd.underlying25 sz_5 (k := j) rfl hjl (hl.isSome hjl)) ?_
      refine GT_st rfl rfl rfl rfl (V_load rfl rfl ag_5 (hl.at0 noM hjl rfl)) ?_
      refine GT_st rfl rfl rfl rfl (V_convII rfl rfl (by rw [Tryd.underlying5]; rfl) Tryd.underlying2 (wrap_i64 (by omega))) ?_
      refine GT_st rfl rfl rfl rfl (V_add rfl rfl rfl (wrap_i64 (by omega))) ?_
      refine GT_st rfl rfl rfl rfl (V_rem rfl rfl rfl (by omega)) ?_
      refine GT_ldv rfl rfl rfl rfl rfl (V_assign rfl rfl) (GR_nil) ?_
      refine GT_nil ?_
      refine GE_slots (L' := [(0, _), (3, _), (4, _), (5, _)]) ⟨rfl, rfl, rfl, rfl, trivial⟩ ?_
      refine GE_plain (.st 0 (.st 1 (.st 2 (.st 3 (.ld 4 [] .nil))))) rfl ?_
      refine GT_st rfl rfl rfl rfl (V_move rfl rfl) ?_
      refine GT_st rfl rfl rfl rfl (V_move rfl rfl) ?_
      refine GT_st rfl rfl rfl rfl (V_add rfl rfl rfl (wrap_i64 (by omega))) ?_
      refine GT_st rfl rfl rfl rfl (V_rem rfl rfl rfl (by omega)) ?_
      refine GT_ldv rfl rfl rfl rfl rfl (V_assign rfl rfl) (GR_nil) ?_
      refine GT_nil ?_
      refine GE_inBlock ?_
      refine GE_slots (L' := [(0, _), (3, _), (4, _), (5, _)]) ⟨rfl, rfl, rfl, rfl, trivial⟩ ?_
      refine GE_plain (.st 0 (.st 1 (.ld 2 [] .nil))) rfl ?_
      refine GT_st rfl rfl rfl rfl (V_move rfl rfl) ?_
      refine GT_st rfl rfl rfl rfl (V_add rfl rfl rfl (wrap_i64 (by omega))) ?_
      refine GT_ldv rfl rfl rfl rfl rfl (V_assign rfl rfl) (GR_nil) ?_
      refine GT_nil ?_
      exact GE_to (ih (j + 1) (by omega) (by omega)) ⟨rfl, lookI rfl (by rw [adl_take hjl]; exact e1), lookI rfl (by rw [adl_take hjl]; exact e2), rfl, trivial⟩ HS.all
    · have eT : l.take j = l := List.take_of_length_le (by omega); rw [eT] at hci ⊢
      refine GE_exit rfl ?_
      refine GE_seq ?_
      refine GE_slots (L' := [(3, _), (4, _)]) ⟨rfl, rfl, trivial⟩ ?_
      refine GE_plain (.st 0 (.st 1 (.st 2 (.st 3 (.st 4 .nil))))) rfl ?_
      refine GT_st rfl rfl rfl rfl (V_move rfl rfl) ?_
      refine GT_st rfl rfl rfl rfl (V_mul rfl rfl rfl (wrap_i64 (by omega))) ?_
      refine GT_st rfl rfl rfl rfl (V_move rfl rfl) ?_
      refine GT_st rfl rfl rfl rfl (V_add rfl rfl rfl (wrap_i64 (by omega))) ?_
      refine GT_st rfl rfl rfl rfl (V_assign rfl rfl) ?_
      refine GT_nil ?_
      refine GE_ret Tryd.func19 rfl (fun w hw => ⟨?_, hw.nil⟩)
      rfl
  · exact Nat.zero_le _
end
end Go.Proofs.YtdcjgjopmicidaaDoor
