/- Texts of this proof, one behind the other: TdM, TdN, TdH, TdO, TdP, TdQ, TaK, TcA, TcB, TcE, TcF. -/
import Derived.Test.YtdcjgjopmicidaaGreatDoorMt12
import Derived.Test.YtdcjgjopmicidaaGreatDoorMt14
import Derived.Test.YtdcjgjopmicidaaGreatDoorMt17
import Derived.Lib.LaidTab
import Derived.Lib.AppendIntMem
import Derived.Lib.AtoiErrMem
import Derived.Lib.IndexLaws
import Derived.Test.YtdcjgjopmicidaaGreatDoorMt10
import Derived.Test.YtdcjgjopmicidaaGreatDoorMt7
import Derived.Test.YtdcjgjopmicidaaGreatDoorMt16
/- The library's functions as contracts of this calculus: FormatInt, TrimSuffix, IndexByte, Split, Atoi, Builder.String; what the world says of the library's variables. -/
namespace Go.Proofs.YtdcjgjopmicidaaGreatDoor
open Go.Sx Go.Proofs Go.RowKit

/-- what the world says of the variables that these functions read -/
structure Env (w : World) : Prop where
  tab : Go.Lib.TabIs Tryz.prog w "internal/strconv.uint64pow10" .u64 Go.Lib.pow10Tab
  ml : ∃ m, w.cell? ⟨3, 0, none⟩ = some (.int .i64 m)
  es : ∃ ev, w.cell? ⟨1, 0, none⟩ = some ev ∧ (ev = .nilIface ∨ ∃ te pe, ev = .iface te pe)
  er : ∃ ev, w.cell? ⟨2, 0, none⟩ = some ev ∧ (ev = .nilIface ∨ ∃ te pe, ev = .iface te pe)
theorem cell_sh {w0 w : World} {H : Items} (m : SH w0 none' H w) {g : Nat} {v : Value} (h : w0.cell? ⟨g, 0, none⟩ = some v) : w.cell? ⟨g, 0, none⟩ = some v := by
  have hg := Go.Lib.lt_of_cell h
  have e := m.old g hg (fun q => q)
  unfold World.cell? at h ⊢
  dsimp only at h ⊢
  rw [e]; exact h
theorem Env.sh {w0 w : World} {H : Items} (E : Env w0) (m : SH w0 none' H w) : Env w := by
  obtain ⟨h1, ⟨n, h2⟩, ⟨e3, h3, k3⟩, ⟨e4, h4, k4⟩⟩ := E
  refine ⟨?_, ⟨n, cell_sh m h2⟩, ⟨e3, cell_sh m h3, k3⟩, ⟨e4, cell_sh m h4, k4⟩⟩
  have hg : Tryz.prog.globalNamed "internal/strconv.uint64pow10" = some 0 := by kernel_rfl
  unfold Go.Lib.TabIs World.var? at h1 ⊢
  rw [hg] at h1 ⊢
  simp only [Option.bind_some] at h1 ⊢
  have hlt : 0 < w0.heap.size := by
    rcases Nat.lt_or_ge 0 w0.heap.size with h' | h'
    · exact h'
    · rw [Array.getElem?_eq_none h'] at h1; cases h1
  rw [m.old _ hlt (fun q => q)]
  exact h1
section
variable {w : World} {s : List UInt8}
theorem C_FormatInt {n : Int} (E : Env w) (h : I64 n) : Con0 Tryz.prog 20 [I n, I 10] w (.string (stz (Go.Lib.itoa n))) := by
  refine Calls.mono (Tryz.strconv_FormatInt_10 n h.1 h.2 w E.tab) fun e w' he => ?_
  obtain ⟨rfl, k, os, rfl⟩ := he
  exact ⟨rfl, SH.ofBelow (Go.Lib.below_grow _ w (Nat.le_refl _) k os)⟩
theorem C_TrimSuffix (hs : s.length ≤ 100000) : Con0 Tryz.prog 28 [.string (stz s), .string ⟨#[10]⟩] w (.string (stz (Go.Lib.trimSuffix s [10]))) := by
  refine Calls.mono (Tryz.strings_TrimSuffix (stz s) ⟨#[10]⟩ w (by rw [stz_size]; omega)) fun e w' he => ?_
  obtain ⟨rfl, rfl⟩ := he
  exact ⟨rfl, SH.refl _ _⟩
theorem C_IndexByte : Con0 Tryz.prog 52 [.string (stz s), .int .u8 10] w (I (Go.Lib.indexByte s 10)) := by
  refine Calls.mono (Tryz.strings_IndexByte (stz s) 10 w) fun e w' he => ?_
  obtain ⟨rfl, rfl⟩ := he
  exact ⟨rfl, SH.refl _ _⟩
theorem C_Atoi (E : Env w) (hs : s.length ≤ 100000) : Con Tryz.prog 29 [.string (stz s)] w (fun _ : Value => True) (fun er => .tuple #[I (atv s), er]) (fun _ => []) := by
  have hsz := stz_size s
  cases h : Go.Lib.atoiAll s with
  | ok v =>
    have e : atv s = v := by rw [atv, h]
    refine Calls.mono (Tryz.strconv_Atoi_ok (stz s) (by omega) v h w) fun e w' he => ?_
    obtain ⟨rfl, hb⟩ := he
    rw [e]
    refine ⟨_, trivial, rfl, ?_⟩
    rcases hb with rfl | ⟨t, rfl⟩
    · exact SH.refl _ _
    · exact SH.ofBelow (Go.Lib.bytesWorld_below _ _ _)
  | range =>
    have e : atv s = Go.Lib.atoiSat s := by rw [atv, h]
    obtain ⟨ev, h1, h2⟩ := E.er
    refine Calls.mono (Tryz.strconv_Atoi_range (stz s) (by omega) h ev w h1 h2) fun e w' he => ?_
    obtain ⟨N, rfl, _, _, hb⟩ := he
    rw [e]
    exact ⟨_, trivial, rfl, SH.ofBelow hb⟩
  | _ =>
    have e : atv s = 0 := by rw [atv, h]
    obtain ⟨ev, h1, h2⟩ := E.es
    refine Calls.mono (Tryz.strconv_Atoi_bad (stz s) (by omega) ⟨fun q => (by have h3 := h.symm.trans q; cases h3), fun v q => (by have h3 := h.symm.trans q; cases h3)⟩ ev w h1 h2) fun e w' he => ?_
    obtain ⟨N, rfl, _, _, hb⟩ := he
    rw [e]
    exact ⟨_, trivial, rfl, SH.ofBelow hb⟩
theorem pcs_len (c : UInt8) : ∀ s : List UInt8, (pcs c s).length = s.count c + 1
  | [] => rfl
  | x :: r => by
    have ih := pcs_len c r
    rw [pcs]
    by_cases h : x = c
    · rw [if_pos h, h, List.count_cons_self, List.length_cons, ih]
    · have e : (x :: r).count c = r.count c := by rw [List.count_cons]; simp [h]
      rw [if_neg h, List.length_cons, List.length_tail, ih, e]; omega
theorem C_Split (E : Env w) (hs : s.length ≤ 100000) : Con Tryz.prog 27 [.string (stz s), .string ⟨#[32]⟩] w (fun y : Option Addr × Nat × Items => Own 1 9 eB (pcs 32 s) (.slice y.1 (pcs 32 s).length y.2.1) y.2.2) (fun y => .slice y.1 (pcs 32 s).length y.2.1) (fun y => y.2.2) := by
  have hsz := stz_size s
  obtain ⟨m, hm⟩ := E.ml
  have hc : Go.Lib.countB (stz s) ⟨#[32]⟩ + 1 = (pcs 32 s).length := by rw [pcs_len]; exact congrArg (· + 1) (Go.Lib.count_one 32 s)
  have hl : (pcs 32 s).length ≤ 100001 := by
    rw [pcs_len]; have := List.count_le_length (a := (32 : UInt8)) (l := s); omega
  refine Calls.mono (Tryz.strings_Split (stz s) ⟨#[32]⟩ m w (by omega) hm (by decide)) fun e w' he => ?_
  obtain ⟨rfl, rfl⟩ := he
  rw [hc]
  have e1 : (Go.Lib.splitB ⟨#[32]⟩ 0 (Go.Lib.countB (stz s) ⟨#[32]⟩) (stz s)).map Value.string = (pcs 32 s).flatMap eB := by
    rw [splitB_pcs, byz_stz, List.map_map]
    induction pcs 32 s with
    | nil => rfl
    | cons x r ih => rw [List.map_cons, List.flatMap_cons, ih]; rfl
  rw [e1]
  refine ⟨(some ⟨w.heap.size, 0, none⟩, (pcs 32 s).length, [(w.heap.size, blk ((pcs 32 s).flatMap eB ++ []) 9)]), ?_, rfl, ?_⟩
  · exact .inr ⟨w.heap.size, (pcs 32 s).length, [], rfl, rfl, by simp, Nat.le_refl _, by unfold maxLen; omega⟩
  · rw [List.append_nil]; exact SH.alloc (SH.refl w none') _
variable {w0 : World} {b : Nat} {H1 J1 : Items} {p : Bool} {A : Option Addr} {c : Nat} {bs : List UInt8}
theorem own_base {w : World} (m : SH w0 none' (J1 ++ H1) w) (hO : Own 1 5 eU bs (.slice A bs.length c) J1) : w.ownsRow w0.heap.size 5 1 (.slice A bs.length c) bs.length (Go.Lib.byteCells bs) := by
  have hb : ∀ l : List UInt8, Go.Lib.byteCells l = l.flatMap eU := fun l => by
    induction l with
    | nil => rfl
    | cons x r ih => rw [List.flatMap_cons, ← ih]; rfl
  have hr := own_row m hO eU_len
  rw [← hb] at hr
  obtain ⟨h1, h2⟩ := hr
  refine ⟨h1, ?_⟩
  rcases h2 with h2 | ⟨g, cap, cur, e1, e2, e3, e4⟩
  · exact .inl h2
  · refine .inr ⟨g, cap, cur, e1, ?_, e3, e4⟩
    rcases hO with ⟨q1, _, _⟩ | ⟨g', c', rest, q1, q2, _⟩
    · rw [q1] at e1; cases e1
    · rw [q1] at e1
      injection e1 with e1
      injection e1 with e1
      injection e1 with e1
      subst e1
      have := (m.item (g', _) (by rw [q2]; exact List.mem_append_left _ (List.mem_singleton.2 rfl))).1
      exact this.resolve_right (fun q => q)
theorem C_String (m : SH w0 none' ((b, blk [bptr p b, .slice A bs.length c] 57) :: (J1 ++ H1)) w) (hO : Own 1 5 eU bs (.slice A bs.length c) J1) :
    Ret Tryz.prog 22 [ptr b 0].toArray w fun r w' => ∃ _ : Unit, True ∧ r = .string (stz bs) ∧ SH w0 none' [] w' := by
  have hi := m.item (b, _) List.mem_cons_self
  have hB : w0.heap.size ≤ b := hi.1.resolve_right (fun q => q)
  have hrow := own_base (J1 := J1) (H1 := H1) (m.hs (C := cx Tryz.prog hm 0 0 w0 none' fun _ _ => True) (HS.chunk (I := J1) (HS.last (I := H1)))) hO
  have hne : (Value.slice A bs.length c).ownBlock ≠ some b := by
    rcases hO with ⟨q1, _, _⟩ | ⟨g', c', rest, q1, q2, _⟩
    · rw [q1]; intro q; cases q
    · rw [q1]
      intro q
      injection q with q
      have hnd := m.nd
      rw [q2] at hnd
      simp only [List.map_cons, List.singleton_append, List.nodup_cons] at hnd
      exact hnd.1 (by rw [← q]; exact List.mem_cons_self)
  have hI : Go.Lib.IsBuilder 57 5 w0.heap.size b (Go.Lib.byteCells bs) w := by
    have hl : (Go.Lib.byteCells bs).length = bs.length := by simp [Go.Lib.byteCells]
    cases p with
    | false => exact .inl ⟨hB, _, hi.2, by rw [hl]; exact hrow, hne⟩
    | true => exact .inr ⟨hB, _, hi.2, by rw [hl]; exact hrow, hne⟩
  refine Calls.mono (Tryz.Builder_String_any w0.heap.size b bs w hI m.size) fun e w' he => ?_
  obtain ⟨rfl, hb⟩ := he
  exact ⟨(), trivial, rfl, ⟨hb.os.trans m.os, hb.tape.trans m.tape, hb.output.trans m.output, Nat.le_trans m.size hb.size, fun k hk hM => (hb.block k hk).trans (m.old k hk hM), by simp, by simp⟩⟩
end
end Go.Proofs.YtdcjgjopmicidaaGreatDoor
/- The program's Text, walked. -/
namespace Go.Proofs.YtdcjgjopmicidaaGreatDoor
open Go.Sx Go.Proofs Go.RowKit

theorem byz_app (a b : ByteArray) : byz (a ++ b) = byz a ++ byz b := by
  rw [← stz_byz a, ← stz_byz b, stz_app, byz_stz, byz_stz, byz_stz]
theorem byz_sp (d : List UInt8) : byz ((⟨#[32]⟩ : ByteArray) ++ stz d) = 32 :: d := by rw [byz_app, byz_stz]; rfl
theorem byz_part (b : ByteArray) : byz ((⟨#[112, 97, 114, 116, 32]⟩ : ByteArray) ++ b) = part5 ++ 32 :: byz b := by rw [byz_app]; rfl
section
variable {w : World} {A A2 : Option Addr} {c c2 : Nat} {l : List Tk} {p : List Prt}
set_option maxRecDepth 20000 in
set_option maxHeartbeats 2000000 in
theorem C_Text (E : Env w) (h : Tks w A l) (hp : RdL w 7 ePrt A2 p) : Con0 Tryz.prog 7 [.slice A l.length c, .slice A2 p.length c2] w (.tuple #[.string (stz (txt l p)), I (gErr l p)]) := by
  refine Ret_of (vs := [_, _]) hm none' Tryz.func7 rfl Tryz.ntmps7 rfl ?_
  dsimp only [slotsOf]
  refine GE_seq ?_
  refine GE_plain (.st 0 (.st 1 .nil)) rfl ?_
  refine GT_st rfl rfl rfl rfl (V_assign rfl rfl) ?_
  refine GT_st rfl rfl rfl rfl (V_assign rfl rfl) ?_
  refine GT_nil ?_
  refine GE_seq ?_
  refine GE_seq ?_
  refine GE_plain (.st 0 (.st 1 (.ld 2 [] (.st 3 .nil)))) rfl ?_
  refine GT_st rfl rfl rfl rfl (V_move rfl rfl) ?_
  refine GT_st rfl rfl rfl rfl (V_move rfl rfl) ?_
  refine GT_call0 rfl rfl rfl rfl rfl rfl rfl rfl rn_18 (fun w hw => C_CheckProgramme (h.sh hw) (hp.sh hw)) (GR_nil) ?_
  refine GT_st rfl rfl rfl rfl (V_assign rfl rfl) ?_
  refine GT_nil ?_
  refine GE_seq ?_
  refine GE_slots (L' := [(0, _), (1, _), (6, _)]) ⟨rfl, rfl, rfl, trivial⟩ ?_
  refine GE_plain (.st 0 (.st 1 .nil)) rfl ?_
  refine GT_st rfl rfl rfl rfl (V_move rfl rfl) ?_
  refine GT_st rfl rfl rfl rfl (V_neq rfl rfl rfl) ?_
  refine GT_nil ?_
  first | refine GE_condNot rfl (fun q1 => ?_) (fun q1 => ?_) | refine GE_cond rfl (fun q1 => ?_) (fun q1 => ?_) | refine GE_condNotB rfl (fun q1 => ?_) (fun q1 => ?_) | refine GE_condB rfl (fun q1 => ?_) (fun q1 => ?_)
  · skip
    refine GE_seq ?_
    refine GE_slots (L' := [(6, _)]) ⟨rfl, trivial⟩ ?_
    refine GE_plain (.st 0 (.st 1 (.st 2 .nil))) rfl ?_
    refine GT_st rfl rfl rfl rfl (V_move rfl rfl) ?_
    refine GT_st rfl rfl rfl rfl (V_assign rfl rfl) ?_
    refine GT_st rfl rfl rfl rfl (V_assign rfl rfl) ?_
    refine GT_nil ?_
    refine GE_ret Tryz.func7 ⟨_, _, rfl, rfl, rfl⟩ (fun w hw => ⟨?_, hw.nil⟩)
    rw [txt, if_neg q1] <;> rfl
  · have hg : gErr l p = 0 := (by omega); obtain ⟨hl, hn, he⟩ := prog_each hg
    refine GE_skip ?_
    refine GE_seq ?_
    refine GE_plain (.ld 0 [] .nil) rfl ?_
    refine GT_alloc rfl rfl rfl rfl rfl zc_57 (fun _ => GR_nil) (fun b7 => ?_)
    refine GT_nil ?_
    refine GE_seq ?_
    refine GE_seq ?_
    refine GE_plain (.st 0 (.st 1 (.st 2 .nil))) rfl ?_
    refine GT_st rfl rfl rfl rfl (V_move rfl rfl) ?_
    refine GT_st rfl rfl rfl rfl (V_len rfl Tryz.underlying23 rfl) ?_
    refine GT_st rfl rfl rfl rfl (V_move rfl rfl) ?_
    refine GT_nil ?_
    refine GE_block ?_
    refine GE_to (GE_loop (ι := Nat × Bool × List UInt8 × (Option Addr × Nat × Items)) (fun z => p.length - z.1) (fun z => [(0, .slice A l.length c), (7, ptr b7 0), (18, .slice A2 p.length c2), (19, I p.length), (20, I z.1)]) (fun z => (b7, blk [bptr z.2.1 b7, .slice z.2.2.2.1 z.2.2.1.length z.2.2.2.2.1] 57) :: z.2.2.2.2.2) (fun z => z.1 ≤ p.length ∧ z.2.2.1 = tx l (p.take z.1) ∧ Own 1 5 eU z.2.2.1 (.slice z.2.2.2.1 z.2.2.1.length z.2.2.2.2.1) z.2.2.2.2.2) ?_ (0, false, [], (none, 0, [])) ?_) ⟨rfl, rfl, rfl, rfl, rfl, trivial⟩ (HS.cons rfl HS.nil)
    · rintro ⟨k, pb, bs, y⟩ ⟨hk, hbs, hO⟩ ih; dsimp only at hk hbs hO ih ⊢; have htl := tx_take_le hg k; rw [← hbs] at htl
      refine GE_seq ?_
      refine GE_plain (.st 0 .nil) rfl ?_
      refine GT_st rfl rfl rfl rfl (V_lss rfl rfl rfl) ?_
      refine GT_nil ?_
      refine GE_seq ?_
      first | refine GE_condNot rfl (fun q2 => ?_) (fun q2 => ?_) | refine GE_cond rfl (fun q2 => ?_) (fun q2 => ?_) | refine GE_condNotB rfl (fun q2 => ?_) (fun q2 => ?_) | refine GE_condB rfl (fun q2 => ?_) (fun q2 => ?_)
      · have hkl : k < p.length := (by omega); have hpk : PrtOk l (pt p k) := he _ (getD_mem hkl); have h0 := hpk.tk0; have hkk : (pt p k).tk.toNat < l.length := (by have := hpk.tk1; omega); have hnm := nm_size (name_ok hl hpk); have hbs0 := nums_bd (bd_small hl hpk)
        refine GE_skip ?_
        refine GE_seq ?_
        refine GE_block ?_
        refine GE_seq ?_
        refine GE_plain (.st 0 (.st 1 (.ld 2 [] (.ld 3 [] .nil)))) rfl ?_
        refine GT_st rfl rfl rfl rfl (V_index rfl rfl rfl Tryz.underlying23 sz_59 (k := k) rfl hkl (hp.isSome hkl)) ?_
        refine GT_st rfl rfl rfl rfl (V_loadN (vs := [_, _, _, _, _, _, _]) rfl rfl ag_59 sz_59 rfl (show CellsAt _ _ _ (ePrt (pt p k)) from hp.ats noM hkl)) ?_
        refine GT_alloc rfl rfl rfl rfl rfl zc_59 (fun _ => GR_nil) (fun b9 => ?_)
        refine GT_store (vs := [_, _, _, _, _, _, _]) (l' := [_, _, _, _, _, _, _]) rfl rfl rfl rfl rfl rfl rfl sz_59 rfl rfl (Nat.le_of_ble_eq_true rfl) rfl (GR_nil) ?_
        refine GT_nil ?_
        refine GE_seq ?_
        refine GE_plain (.st 0 (.st 1 (.st 2 (.st 3 (.st 4 (.st 5 (.st 6 (.ld 7 [] .nil)))))))) rfl ?_
        refine GT_st rfl rfl rfl rfl (V_move rfl rfl) ?_
        first | refine GT_st rfl rfl rfl rfl (V_field rfl rfl fo_59_0) ?_ | refine GT_st rfl rfl rfl rfl (V_fieldA rfl rfl fo_59_0) ?_
        refine GT_st rfl rfl rfl rfl (V_load rfl rfl ag_3 (CellAt.item rfl)) ?_
        refine GT_st rfl rfl rfl rfl (V_index rfl rfl rfl Tryz.underlying22 sz_39 (k := (pt p k).tk.toNat) (show (pt p k).tk = _ by omega) hkk (h.1.isSome hkk)) ?_
        first | refine GT_st rfl rfl rfl rfl (V_field rfl rfl fo_39_0) ?_ | refine GT_st rfl rfl rfl rfl (V_fieldA rfl rfl fo_39_0) ?_
        refine GT_st rfl rfl rfl rfl (V_load rfl rfl ag_9 (h.1.at0 noM hkk rfl)) ?_
        refine GT_st rfl rfl rfl rfl (V_addStr rfl rfl rfl (by show 5 + (tkOf l (pt p k)).name.size ≤ _; omega)) ?_
        refine GT_callX rfl rfl rfl rfl rfl rfl rfl rfl rn_19 (fun w m => C_WriteString (p := pb) (bs := bs) (m.hs (HS.cons rfl (HS.chunk HS.all))) hO (by have hnm' : (l.getD (pt p k).tk.toNat default).name.size ≤ 20 := hnm; rw [← byz_len, byz_part, List.length_append, List.length_cons, byz_len]; show _ + (4 + (_ + 1)) ≤ _; omega)) (fun _ _ => GR_nil) (fun y31 hy31 => ?_)
        have e31 : bs ++ byz ((⟨#[112, 97, 114, 116, 32]⟩ : ByteArray) ++ (tkOf l (pt p k)).name) = bs ++ rowL (part5 ++ 32 :: byz (tkOf l (pt p k)).name) ((nums (pt p k)).take 0) := (by rw [byz_part, List.take_zero, rowL_nil])
        refine GT_nil ?_
        refine GE_seq ?_
        refine GE_seq ?_
        refine GE_slots (L' := [(0, _), (7, _), (9, _), (18, _), (19, _), (20, _)]) ⟨rfl, rfl, rfl, rfl, rfl, rfl, trivial⟩ ?_
        refine GE_plain (.st 0 (.st 1 (.st 2 (.st 3 (.st 4 (.st 5 (.st 6 (.st 7 (.st 8 (.st 9 (.st 10 (.st 11 (.st 12 (.st 13 .nil)))))))))))))) rfl ?_
        first | refine GT_st rfl rfl rfl rfl (V_field rfl rfl fo_59_1) ?_ | refine GT_st rfl rfl rfl rfl (V_fieldA rfl rfl fo_59_1) ?_
        refine GT_st rfl rfl rfl rfl (V_load rfl rfl ag_3 (CellAt.item rfl)) ?_
        first | refine GT_st rfl rfl rfl rfl (V_field rfl rfl fo_59_2) ?_ | refine GT_st rfl rfl rfl rfl (V_fieldA rfl rfl fo_59_2) ?_
        refine GT_st rfl rfl rfl rfl (V_load rfl rfl ag_3 (CellAt.item rfl)) ?_
        first | refine GT_st rfl rfl rfl rfl (V_field rfl rfl fo_59_3) ?_ | refine GT_st rfl rfl rfl rfl (V_fieldA rfl rfl fo_59_3) ?_
        refine GT_st rfl rfl rfl rfl (V_load rfl rfl ag_3 (CellAt.item rfl)) ?_
        first | refine GT_st rfl rfl rfl rfl (V_field rfl rfl fo_59_4) ?_ | refine GT_st rfl rfl rfl rfl (V_fieldA rfl rfl fo_59_4) ?_
        refine GT_st rfl rfl rfl rfl (V_load rfl rfl ag_3 (CellAt.item rfl)) ?_
        first | refine GT_st rfl rfl rfl rfl (V_field rfl rfl fo_59_5) ?_ | refine GT_st rfl rfl rfl rfl (V_fieldA rfl rfl fo_59_5) ?_
        refine GT_st rfl rfl rfl rfl (V_load rfl rfl ag_3 (CellAt.item rfl)) ?_
        first | refine GT_st rfl rfl rfl rfl (V_field rfl rfl fo_59_6) ?_ | refine GT_st rfl rfl rfl rfl (V_fieldA rfl rfl fo_59_6) ?_
        refine GT_st rfl rfl rfl rfl (V_load rfl rfl ag_2 (CellAt.item rfl)) ?_
        refine GT_st rfl rfl rfl rfl (V_build (vs := [_, _, _, _, _, _]) rfl rfl zc_64 pl_64 sa_64 rfl) ?_
        refine GT_st rfl rfl rfl rfl (V_move rfl rfl) ?_
        refine GT_nil ?_
        refine GE_block ?_
        refine GE_to (GE_loop (ι := Nat × List UInt8 × (Option Addr × Nat × Items)) (fun z => 6 - z.1) (fun z => [(0, .slice A l.length c), (7, ptr b7 0), (18, .slice A2 p.length c2), (19, I p.length), (20, I k), (44, .agg #[I (pt p k).fr, I (pt p k).to, I (pt p k).gap, I (pt p k).inn, I (pt p k).out, I (pt p k).lev]), (45, I z.1)]) (fun z => (b7, blk [ptr b7 0, .slice z.2.2.1 z.2.1.length z.2.2.2.1] 57) :: z.2.2.2.2) (fun z => z.1 ≤ 6 ∧ z.2.1 = bs ++ rowL (part5 ++ 32 :: byz (tkOf l (pt p k)).name) ((nums (pt p k)).take z.1) ∧ Own 1 5 eU z.2.1 (.slice z.2.2.1 z.2.1.length z.2.2.2.1) z.2.2.2.2) ?_ (0, _, y31) ?_) ⟨rfl, rfl, rfl, rfl, rfl, rfl, rfl, trivial⟩ (HS.cons rfl HS.last)
        · rintro ⟨j, bs2, y⟩ ⟨hj, hbs2, hO2⟩ ih2; dsimp only at hj hbs2 hO2 ih2 ⊢; have hrl := rowL_len (d := part5 ++ 32 :: byz (tkOf l (pt p k)).name) (n := (nums (pt p k)).take j) (fun x hx => hbs0 x (List.mem_of_mem_take hx)); have hbl : bs2.length ≤ 4000 := (by rw [hbs2, List.length_append]; rw [List.length_take, List.length_append, List.length_cons, byz_len] at hrl; have e6 : (nums (pt p k)).length = 6 := rfl; have e4 : part5.length = 4 := rfl; omega)
          refine GE_seq ?_
          refine GE_plain (.st 0 .nil) rfl ?_
          refine GT_st rfl rfl rfl rfl (V_lss rfl rfl rfl) ?_
          refine GT_nil ?_
          refine GE_seq ?_
          first | refine GE_condNot rfl (fun q3 => ?_) (fun q3 => ?_) | refine GE_cond rfl (fun q3 => ?_) (fun q3 => ?_) | refine GE_condNotB rfl (fun q3 => ?_) (fun q3 => ?_) | refine GE_condB rfl (fun q3 => ?_) (fun q3 => ?_)
          · have q3' : j < 6 := (by omega); have hnb := hbs0 _ (getD_mem (l := nums (pt p k)) (i := j) q3'); have hil := itoa_le _ hnb
            refine GE_skip ?_
            refine GE_seq ?_
            refine GE_block ?_
            refine GE_seq ?_
            refine GE_plain (.st 0 (.st 1 .nil)) rfl ?_
            refine GT_st rfl rfl rfl rfl (V_indexAgg rfl rfl rfl Tryz.underlying64 ag_2 sz_2 (kk := j) rfl (by omega) (show _ = some (I ((nums (pt p k)).getD j default)) by rcases (show j = 0 ∨ j = 1 ∨ j = 2 ∨ j = 3 ∨ j = 4 ∨ j = 5 by omega) with rfl | rfl | rfl | rfl | rfl | rfl <;> rfl)) ?_
            refine GT_st rfl rfl rfl rfl (V_assign rfl rfl) ?_
            refine GT_nil ?_
            refine GE_plain (.st 0 (.ld 1 [] (.st 2 (.ld 3 [] .nil)))) rfl ?_
            refine GT_st rfl rfl rfl rfl (V_move rfl rfl) ?_
            refine GT_call0 rfl rfl rfl rfl rfl rfl rfl rfl rn_20 (fun w hw => C_FormatInt (E.sh hw) (by unfold I64; omega)) (GR_nil) ?_
            refine GT_st rfl rfl rfl rfl (V_addStr rfl rfl rfl (by show 1 + _ ≤ _; omega)) ?_
            refine GT_callX rfl rfl rfl rfl rfl rfl rfl rfl rn_19 (fun w m => C_WriteString (p := true) (bs := bs2) (m.hs (HS.cons rfl (HS.chunk HS.all))) hO2 (by rw [← byz_len, byz_sp, List.length_cons, ← byz_stz (Go.Lib.itoa _), byz_len]; omega)) (fun _ _ => GR_nil) (fun y51 hy51 => ?_)
            refine GT_nil ?_
            refine GE_inBlock ?_
            refine GE_slots (L' := [(0, _), (7, _), (18, _), (19, _), (20, _), (44, _), (45, _)]) ⟨rfl, rfl, rfl, rfl, rfl, rfl, rfl, trivial⟩ ?_
            refine GE_plain (.st 0 (.ld 1 [] .nil)) rfl ?_
            refine GT_st rfl rfl rfl rfl (V_add rfl rfl rfl (wrap_i64 (by omega))) ?_
            refine GT_ldv rfl rfl rfl rfl rfl (V_move rfl rfl) (GR_nil) ?_
            refine GT_nil ?_
            exact GE_to (ih2 (j + 1, _, y51) ⟨by dsimp only; omega, by dsimp only; rw [byz_sp, hbs2, rowL_succ (show j < (nums (pt p k)).length from q3'), List.append_assoc]; rfl, hy51⟩ (by dsimp only; omega)) ⟨rfl, rfl, rfl, rfl, rfl, rfl, rfl, trivial⟩ (HS.cons rfl HS.last)
          · skip
            refine GE_exit rfl ?_
            refine GE_plain (.ld 0 [] .nil) rfl ?_
            refine GT_callX rfl rfl rfl rfl rfl rfl rfl rfl rn_21 (fun w m => C_WriteByte (p := true) (bs := bs2) (x := 10) (m.hs (HS.cons rfl (HS.chunk HS.all))) hO2 (by omega)) (fun _ _ => GR_nil) (fun y53 hy53 => ?_)
            refine GT_nil ?_
            refine GE_inBlock ?_
            refine GE_slots (L' := [(0, _), (7, _), (18, _), (19, _), (20, _)]) ⟨rfl, rfl, rfl, rfl, rfl, trivial⟩ ?_
            refine GE_plain (.st 0 (.ld 1 [] .nil)) rfl ?_
            refine GT_st rfl rfl rfl rfl (V_add rfl rfl rfl (wrap_i64 (by omega))) ?_
            refine GT_ldv rfl rfl rfl rfl rfl (V_move rfl rfl) (GR_nil) ?_
            refine GT_nil ?_
            exact GE_to (ih (k + 1, true, _, y53) ⟨by dsimp only; omega, by dsimp only; rw [hbs2, hbs, tx_succ hkl, show j = (nums (pt p k)).length by show j = 6; omega, List.take_length, rowL_nums, List.append_assoc]; rfl, hy53⟩ (by dsimp only; omega)) ⟨rfl, rfl, rfl, rfl, rfl, trivial⟩ (HS.cons rfl HS.last)
        · exact ⟨Nat.zero_le _, e31, hy31⟩
      · skip
        refine GE_exit rfl ?_
        refine GE_seq ?_
        refine GE_slots (L' := [(7, _)]) ⟨rfl, trivial⟩ ?_
        refine GE_plain (.ld 0 [] (.st 1 (.st 2 .nil))) rfl ?_
        refine GT_callX rfl rfl rfl rfl rfl rfl rfl rfl rn_22 (fun w m => C_String (p := pb) (bs := bs) (m.hs (HS.cons rfl (HS.chunk HS.all))) hO) (fun _ _ => GR_nil) (fun _ _ => ?_)
        refine GT_st rfl rfl rfl rfl (V_assign rfl rfl) ?_
        refine GT_st rfl rfl rfl rfl (V_assign rfl rfl) ?_
        refine GT_nil ?_
        refine GE_ret Tryz.func7 ⟨_, _, rfl, rfl, rfl⟩ (fun w hw => ⟨?_, hw.nil⟩)
        rw [hbs, show k = p.length by omega, List.take_length, txt, if_pos hg, hg]
    · exact ⟨Nat.zero_le _, rfl, Own.nil⟩
end
end Go.Proofs.YtdcjgjopmicidaaGreatDoor
/- The document's Parse, walked. -/
namespace Go.Proofs.YtdcjgjopmicidaaGreatDoor
open Go.Sx Go.Proofs Go.RowKit

def rw9 (s : List UInt8) : List (List UInt8) := (pcs 10 s).take 40
theorem rw9_len (s : List UInt8) : 1 ≤ (rw9 s).length ∧ (rw9 s).length ≤ 40 := by
  have := List.length_pos_iff.2 (pcs_ne 10 s)
  unfold rw9; rw [List.length_take]; omega
theorem pcs_mem_le (c : UInt8) : ∀ (s : List UInt8), ∀ x ∈ pcs c s, x.length ≤ s.length
  | [], x, hx => by rw [pcs, List.mem_singleton] at hx; subst hx; exact Nat.le_refl _
  | a :: s, x, hx => by
    have ih := pcs_mem_le c s
    rw [List.length_cons]
    rw [pcs] at hx
    split at hx
    · rcases List.mem_cons.1 hx with rfl | hx
      · exact Nat.zero_le _
      · have := ih x hx; omega
    · rcases List.mem_cons.1 hx with rfl | hx
      · have hm : (pcs c s).headD [] ∈ pcs c s := by
          cases h : pcs c s with
          | nil => exact absurd h (pcs_ne c s)
          | cons y t => exact List.mem_cons_self
        have := ih _ hm
        rw [List.length_cons]; omega
      · have := ih x (List.mem_of_mem_tail hx); omega
theorem rw9_row {s : List UInt8} {k : Nat} (hk : k < (rw9 s).length) : ((rw9 s).getD k default).length ≤ s.length :=
  pcs_mem_le 10 s _ (List.mem_of_mem_take (getD_mem hk))
theorem p2_end {l : List Tk} {s : List UInt8} {k : Nat} (h1 : k + 1 = (rw9 s).length) : ((rw9 s).take k).map (pr2 l) = p2 l s := by
  unfold p2 rw2
  rw [List.dropLast_eq_take]
  show _ = List.map _ ((rw9 s).take ((rw9 s).length - 1))
  rw [← h1, Nat.add_sub_cancel]
theorem p2_succ {l : List Tk} {s : List UInt8} {k : Nat} (hk : k < (rw9 s).length) : ((rw9 s).take (k + 1)).map (pr2 l) = ((rw9 s).take k).map (pr2 l) ++ [pr2 l ((rw9 s).getD k default)] := by
  rw [List.take_add_one, List.getElem?_eq_getElem hk, List.map_append]; simp [List.getD, hk]
theorem p2_len (l : List Tk) {s : List UInt8} {k : Nat} (hk : k ≤ (rw9 s).length) : (((rw9 s).take k).map (pr2 l)).length = k := by
  rw [List.length_map, List.length_take]; omega
theorem w9_len (r : List UInt8) : 9 ≤ (w9 r).length ∧ (w9 r).length ≤ 17 := by
  have := List.length_pos_iff.2 (pcs_ne 32 r)
  unfold w9; rw [List.length_append, List.length_take, List.length_replicate]; omega
section
variable {w : World} {A : Option Addr} {c : Nat} {l : List Tk} {s : List UInt8}
set_option maxRecDepth 20000 in
set_option maxHeartbeats 4000000 in
theorem C_rParse (h : Tks w A l) (hs : s.length ≤ 70000) : Con Tryz.prog 10 [.slice A l.length c, .string (stz s)] w (fun y : Option Addr × Nat × Items => Own 7 59 ePrt (pa2 l s).1 (.slice y.1 (pa2 l s).1.length y.2.1) y.2.2)
    (fun y => .tuple #[.slice y.1 (pa2 l s).1.length y.2.1, I (pa2 l s).2]) (fun y => y.2.2) := by
  have hsz := stz_size s
  have hR := rw9_len s
  refine Ret_of (vs := [_, _]) hm none' Tryz.func10 rfl Tryz.ntmps10 rfl ?_
  dsimp only [slotsOf]
  refine GE_seq ?_
  refine GE_plain (.st 0 (.st 1 .nil)) rfl ?_
  refine GT_st rfl rfl rfl rfl (V_assign rfl rfl) ?_
  refine GT_st rfl rfl rfl rfl (V_assign rfl rfl) ?_
  refine GT_nil ?_
  refine GE_seq ?_
  refine GE_seq ?_
  refine GE_plain (.st 0 (.ld 1 [] (.st 2 .nil))) rfl ?_
  refine GT_st rfl rfl rfl rfl (V_move rfl rfl) ?_
  refine GT_call0 rfl rfl rfl rfl rfl rfl rfl rfl rn_30 (fun w hw => C_rCheckTakes (h.sh hw)) (GR_nil) ?_
  refine GT_st rfl rfl rfl rfl (V_neq rfl rfl rfl) ?_
  refine GT_nil ?_
  first | refine GE_condNot rfl (fun q1 => ?_) (fun q1 => ?_) | refine GE_cond rfl (fun q1 => ?_) (fun q1 => ?_) | refine GE_condNotB rfl (fun q1 => ?_) (fun q1 => ?_) | refine GE_condB rfl (fun q1 => ?_) (fun q1 => ?_)
  · skip
    refine GE_seq ?_
    refine GE_slots (L' := [(0, _)]) ⟨rfl, trivial⟩ ?_
    refine GE_plain (.st 0 (.ld 1 [] (.st 2 (.st 3 .nil)))) rfl ?_
    refine GT_st rfl rfl rfl rfl (V_move rfl rfl) ?_
    refine GT_call0 rfl rfl rfl rfl rfl rfl rfl rfl rn_30 (fun w hw => C_rCheckTakes (h.sh hw)) (GR_nil) ?_
    refine GT_st rfl rfl rfl rfl (V_assign rfl rfl) ?_
    refine GT_st rfl rfl rfl rfl (V_assign rfl rfl) ?_
    refine GT_nil ?_
    refine GE_ret Tryz.func10 ⟨_, _, rfl, rfl, rfl⟩ (fun w hw => ?_)
    have e : pa2 l s = ([], lErr l) := if_neg q1; exact ⟨(none, 0, []), by rw [e]; exact Own.nil, by rw [e] <;> rfl, hw.nil⟩
  · have h0 : lErr l = 0 := (by omega); have hl16 := (lErr_zero.1 h0).most
    refine GE_skip ?_
    refine GE_seq ?_
    refine GE_seq ?_
    refine GE_slots (L' := [(0, _), (1, _)]) ⟨rfl, rfl, trivial⟩ ?_
    refine GE_plain (.st 0 (.st 1 (.st 2 .nil))) rfl ?_
    refine GT_st rfl rfl rfl rfl (V_move rfl rfl) ?_
    refine GT_st rfl rfl rfl rfl (V_len_str rfl Tryz.underlying9 rfl) ?_
    refine GT_st rfl rfl rfl rfl (V_gtr rfl rfl rfl) ?_
    refine GT_nil ?_
    first | refine GE_condNot rfl (fun q2 => ?_) (fun q2 => ?_) | refine GE_cond rfl (fun q2 => ?_) (fun q2 => ?_) | refine GE_condNotB rfl (fun q2 => ?_) (fun q2 => ?_) | refine GE_condB rfl (fun q2 => ?_) (fun q2 => ?_)
    · skip
      refine GE_seq ?_
      refine GE_slots (L' := []) trivial ?_
      refine GE_plain (.st 0 (.st 1 .nil)) rfl ?_
      refine GT_st rfl rfl rfl rfl (V_assign rfl rfl) ?_
      refine GT_st rfl rfl rfl rfl (V_assign rfl rfl) ?_
      refine GT_nil ?_
      refine GE_ret Tryz.func10 ⟨_, _, rfl, rfl, rfl⟩ (fun w hw => ?_)
      have e : pa2 l s = ([], 7) := (by rw [pa2, if_pos h0, if_pos (by omega)]); exact ⟨(none, 0, []), by rw [e]; exact Own.nil, by rw [e] <;> rfl, hw.nil⟩
    · have eU : pa2 l s = unT l s (p2 l s) := (by rw [pa2, if_pos h0, if_neg (by omega)])
      refine GE_skip ?_
      refine GE_seq ?_
      refine GE_plain (.st 0 .nil) rfl ?_
      refine GT_st rfl rfl rfl rfl (V_assign rfl rfl) ?_
      refine GT_nil ?_
      refine GE_seq ?_
      refine GE_plain (.st 0 (.ld 1 [] (.st 2 .nil))) rfl ?_
      refine GT_st rfl rfl rfl rfl (V_move rfl rfl) ?_
      refine GT_call rfl rfl rfl rfl rfl rfl rfl rfl rn_31 (fun w hw => C_Cut (s := s) (c := 10) (m := 40) (by omega) (by decide)) (fun _ _ => GR_nil) (fun y hy => ?_)
      change Own 1 _ eB (rw9 s) (.slice y.1 (rw9 s).length y.2.1) y.2.2 at hy
      refine GT_st rfl rfl rfl rfl (V_assign rfl rfl) ?_
      refine GT_nil ?_
      refine GE_seq ?_
      refine GE_seq ?_
      refine GE_slots (L' := [(0, _), (1, _), (6, _), (7, _)]) ⟨rfl, rfl, rfl, rfl, trivial⟩ ?_
      refine GE_plain (.st 0 .nil) rfl ?_
      refine GT_st rfl rfl rfl rfl (V_assign rfl rfl) ?_
      refine GT_nil ?_
      refine GE_block ?_
      refine GE_to (GE_loop (ι := Nat × (Option Addr × Nat × Items)) (fun z => (rw9 s).length - z.1) (fun z => [(0, .slice A l.length c), (1, .string (stz s)), (6, .slice z.2.1 (((rw9 s).take z.1).map (pr2 l)).length z.2.2.1), (7, .slice y.1 (rw9 s).length y.2.1), (8, I z.1)]) (fun z => z.2.2.2 ++ y.2.2) (fun z => z.1 + 1 ≤ (rw9 s).length ∧ Own 7 59 ePrt (((rw9 s).take z.1).map (pr2 l)) (.slice z.2.1 (((rw9 s).take z.1).map (pr2 l)).length z.2.2.1) z.2.2.2) ?_ (0, (none, 0, [])) ?_) ⟨rfl, rfl, rfl, rfl, rfl, trivial⟩ (HS.eq (X := y.2.2) HS.last rfl)
      · rintro ⟨k, z⟩ ⟨hk, hO⟩ ih; dsimp only at hk hO ih ⊢; have hpl := p2_len l (show k ≤ (rw9 s).length by omega)
        refine GE_seq ?_
        refine GE_seq ?_
        refine GE_plain (.st 0 (.st 1 (.st 2 (.st 3 (.st 4 .nil))))) rfl ?_
        refine GT_st rfl rfl rfl rfl (V_move rfl rfl) ?_
        refine GT_st rfl rfl rfl rfl (V_add rfl rfl rfl (wrap_i64 (by omega))) ?_
        refine GT_st rfl rfl rfl rfl (V_move rfl rfl) ?_
        refine GT_st rfl rfl rfl rfl (V_len rfl Tryz.underlying75 rfl) ?_
        refine GT_st rfl rfl rfl rfl (V_lss rfl rfl rfl) ?_
        refine GT_nil ?_
        first | refine GE_condNot rfl (fun q3 => ?_) (fun q3 => ?_) | refine GE_cond rfl (fun q3 => ?_) (fun q3 => ?_) | refine GE_condNotB rfl (fun q3 => ?_) (fun q3 => ?_) | refine GE_condB rfl (fun q3 => ?_) (fun q3 => ?_)
        · have hkl : k < (rw9 s).length := (by omega); have hrl := rw9_row hkl; generalize hrow : (rw9 s).getD k default = row at hrl
          refine GE_skip ?_
          refine GE_seq ?_
          refine GE_block ?_
          refine GE_seq ?_
          refine GE_slots (L' := [(0, _), (1, _), (6, _), (7, _), (8, _)]) ⟨rfl, rfl, rfl, rfl, rfl, trivial⟩ ?_
          refine GE_plain (.st 0 (.st 1 (.st 2 (.st 3 (.ld 4 [] (.ld 5 [] (.ld 6 [] (.st 7 .nil)))))))) rfl ?_
          refine GT_st rfl rfl rfl rfl (V_move rfl rfl) ?_
          refine GT_st rfl rfl rfl rfl (V_move rfl rfl) ?_
          refine GT_st rfl rfl rfl rfl (V_index rfl rfl rfl Tryz.underlying75 sz_9 (k := k) rfl hkl (hy.isSome (k := k) hkl)) ?_
          refine GT_st rfl rfl rfl rfl (V_load rfl rfl ag_9 (CellAt.own0 (k := k) hy eB_len hkl (show _ = some (Value.string (stz row)) by rw [hrow]; rfl))) ?_
          refine GT_call rfl rfl rfl rfl rfl rfl rfl rfl rn_31 (fun w hw => C_Cut (s := row) (c := 32) (m := 9) (by omega) (by decide)) (fun _ _ => GR_nil) (fun u hu => ?_)
          refine GT_buildSlice (z := [_, _, _, _, _, _, _, _]) rfl rfl rfl rfl rfl Tryz.underlying75 zc_9 sz_9 (by decide) rfl rfl (fun _ => GR_nil) (fun b36 => ?_)
          refine GT_append (enc := eB) (m := [[], [], [], [], [], [], [], []]) rfl rfl rfl rfl rfl rfl rfl hu (fun w m => RdL.own' m eB_len) Tryz.underlying75 zc_9 sz_9 ⟨rfl, by decide⟩ by_9 ⟨by rw [List.length_take]; simp only [List.length_cons, List.length_nil]; omega, by rw [List.length_take]; simp only [List.length_cons, List.length_nil]; omega⟩ eB_len eB_one (fun _ _ _ _ => GR_nil) (fun A4 c4 I4 hO4 => ?_)
          change Own 1 _ eB (w9 row) (.slice A4 (w9 row).length c4) I4 at hO4; have hw9 := w9_len row
          refine GT_st rfl rfl rfl rfl (V_assign rfl rfl) ?_
          refine GT_nil ?_
          refine GE_cut (ι := Nat) (fun b10 => [(0, .slice A l.length c), (1, .string (stz s)), (6, .slice z.1 (((rw9 s).take k).map (pr2 l)).length z.2.1), (7, .slice y.1 (rw9 s).length y.2.1), (8, I k), (9, .slice A4 (w9 row).length c4), (10, ptr b10 0)]) (fun b10 => (b10, blk [I (-1), I (nmr (gw (w9 row) 2)), I (nmr (gw (w9 row) 3)), I (nmr (gw (w9 row) 4)), I (nmr (gw (w9 row) 5)), I (nmr (gw (w9 row) 6)), I (nmr (gw (w9 row) 7))] 59) :: (I4 ++ (z.2.2 ++ y.2.2))) (fun b10 => True) ?_ (fun hk => ?_)
          · intro b10 _
            refine GE_seq ?_
            refine GE_seq ?_
            refine GE_plain (.st 0 .nil) rfl ?_
            refine GT_st rfl rfl rfl rfl (V_assign rfl rfl) ?_
            refine GT_nil ?_
            refine GE_block ?_
            refine GE_to (GE_loop (ι := Nat × Int) (fun v => l.length - v.1) (fun v => [(0, .slice A l.length c), (1, .string (stz s)), (6, .slice z.1 (((rw9 s).take k).map (pr2 l)).length z.2.1), (7, .slice y.1 (rw9 s).length y.2.1), (8, I k), (9, .slice A4 (w9 row).length c4), (10, ptr b10 0), (11, I v.1)]) (fun v => (b10, blk [I v.2, I (nmr (gw (w9 row) 2)), I (nmr (gw (w9 row) 3)), I (nmr (gw (w9 row) 4)), I (nmr (gw (w9 row) 5)), I (nmr (gw (w9 row) 6)), I (nmr (gw (w9 row) 7))] 59) :: (I4 ++ (z.2.2 ++ y.2.2))) (fun v => v.1 ≤ l.length ∧ v.2 = lastIx l (stz (gw (w9 row) 1)) v.1) ?_ (0, -1) ?_) ⟨rfl, rfl, rfl, rfl, rfl, rfl, rfl, rfl, trivial⟩ (HS.cons rfl (HS.chunk (HS.chunk HS.last)))
            · rintro ⟨j, v⟩ ⟨hj, hv⟩ ih2; dsimp only at hj hv ih2 ⊢
              refine GE_seq ?_
              refine GE_seq ?_
              refine GE_plain (.st 0 (.st 1 (.st 2 (.st 3 .nil)))) rfl ?_
              refine GT_st rfl rfl rfl rfl (V_move rfl rfl) ?_
              refine GT_st rfl rfl rfl rfl (V_move rfl rfl) ?_
              refine GT_st rfl rfl rfl rfl (V_len rfl Tryz.underlying22 rfl) ?_
              refine GT_st rfl rfl rfl rfl (V_lss rfl rfl rfl) ?_
              refine GT_nil ?_
              first | refine GE_condNot rfl (fun q5 => ?_) (fun q5 => ?_) | refine GE_cond rfl (fun q5 => ?_) (fun q5 => ?_) | refine GE_condNotB rfl (fun q5 => ?_) (fun q5 => ?_) | refine GE_condB rfl (fun q5 => ?_) (fun q5 => ?_)
              · have hjl : j < l.length := (by omega)
                refine GE_skip ?_
                refine GE_seq ?_
                refine GE_block ?_
                refine GE_seq ?_
                refine GE_slots (L' := [(0, _), (1, _), (6, _), (7, _), (8, _), (9, _), (10, _), (11, _)]) ⟨rfl, rfl, rfl, rfl, rfl, rfl, rfl, rfl, trivial⟩ ?_
                refine GE_drawn (.st 0 (.st 1 (.st 2 (.st 3 (.st 4 (.st 5 (.st 6 (.st 7 (.st 8 .nil))))))))) [] (by decide +kernel) ?_
                refine GT_st rfl rfl rfl rfl (V_move rfl rfl) ?_
                refine GT_st rfl rfl rfl rfl (V_move rfl rfl) ?_
                refine GT_st rfl rfl rfl rfl (V_index rfl rfl rfl Tryz.underlying22 sz_39 (k := j) rfl hjl (h.1.isSome hjl)) ?_
                first | refine GT_st rfl rfl rfl rfl (V_field rfl rfl fo_39_0) ?_ | refine GT_st rfl rfl rfl rfl (V_fieldA rfl rfl fo_39_0) ?_
                refine GT_st rfl rfl rfl rfl (V_load rfl rfl ag_9 (h.1.at0 noM hjl rfl)) ?_
                refine GT_st rfl rfl rfl rfl (V_move rfl rfl) ?_
                refine GT_st rfl rfl rfl rfl (V_index (k := 1) rfl rfl rfl Tryz.underlying75 sz_9 rfl (by show _ < (w9 row).length; omega) (hO4.isSome (k := 1) (by omega))) ?_
                refine GT_st rfl rfl rfl rfl (V_load rfl rfl ag_9 (CellAt.own0 (k := 1) hO4 eB_len (by omega) (show _ = some (Value.string (stz (gw (w9 row) 1))) from rfl))) ?_
                refine GT_st rfl rfl rfl rfl (V_eqlStr rfl rfl rfl) ?_
                refine GT_nil ?_
                first | refine GE_condNot rfl (fun q6 => ?_) (fun q6 => ?_) | refine GE_cond rfl (fun q6 => ?_) (fun q6 => ?_) | refine GE_condNotB rfl (fun q6 => ?_) (fun q6 => ?_) | refine GE_condB rfl (fun q6 => ?_) (fun q6 => ?_)
                · skip
                  refine GE_slots (L' := [(0, _), (1, _), (6, _), (7, _), (8, _), (9, _), (10, _), (11, _)]) ⟨rfl, rfl, rfl, rfl, rfl, rfl, rfl, rfl, trivial⟩ ?_
                  refine GE_plain (.st 0 (.st 1 (.ld 2 [] .nil))) rfl ?_
                  refine GT_st rfl rfl rfl rfl (V_move rfl rfl) ?_
                  first | refine GT_st rfl rfl rfl rfl (V_field rfl rfl fo_59_0) ?_ | refine GT_st rfl rfl rfl rfl (V_fieldA rfl rfl fo_59_0) ?_
                  refine GT_store (vs := [_]) (l' := [_, _, _, _, _, _, _]) rfl rfl rfl rfl rfl rfl rfl sz_3 rfl rfl (Nat.le_of_ble_eq_true rfl) rfl (GR_nil) ?_
                  refine GT_nil ?_
                  refine GE_inBlock ?_
                  refine GE_plain (.st 0 (.st 1 (.ld 2 [] .nil))) rfl ?_
                  refine GT_st rfl rfl rfl rfl (V_move rfl rfl) ?_
                  refine GT_st rfl rfl rfl rfl (V_add rfl rfl rfl (wrap_i64 (by omega))) ?_
                  refine GT_ldv rfl rfl rfl rfl rfl (V_assign rfl rfl) (GR_nil) ?_
                  refine GT_nil ?_
                  first
                    | exact GE_to (ih2 (j + 1, (j : Int)) ⟨by dsimp only; omega, by dsimp only; rw [lastIx, if_pos q6]⟩ (by dsimp only; omega)) ⟨rfl, rfl, rfl, rfl, rfl, rfl, rfl, lookI rfl (by dsimp only; omega), trivial⟩ (HS.cons rfl (HS.chunk (HS.chunk HS.last)))
                    | exact GE_to (ih2 (j + 1, v) ⟨by dsimp only; omega, by dsimp only; rw [lastIx, if_neg q6]; exact hv⟩ (by dsimp only; omega)) ⟨rfl, rfl, rfl, rfl, rfl, rfl, rfl, lookI rfl (by dsimp only; omega), trivial⟩ (HS.cons rfl (HS.chunk (HS.chunk HS.last)))
                · skip
                  refine GE_skip ?_
                  refine GE_inBlock ?_
                  refine GE_slots (L' := [(0, _), (1, _), (6, _), (7, _), (8, _), (9, _), (10, _), (11, _)]) ⟨rfl, rfl, rfl, rfl, rfl, rfl, rfl, rfl, trivial⟩ ?_
                  refine GE_plain (.st 0 (.st 1 (.ld 2 [] .nil))) rfl ?_
                  refine GT_st rfl rfl rfl rfl (V_move rfl rfl) ?_
                  refine GT_st rfl rfl rfl rfl (V_add rfl rfl rfl (wrap_i64 (by omega))) ?_
                  refine GT_ldv rfl rfl rfl rfl rfl (V_assign rfl rfl) (GR_nil) ?_
                  refine GT_nil ?_
                  first
                    | exact GE_to (ih2 (j + 1, (j : Int)) ⟨by dsimp only; omega, by dsimp only; rw [lastIx, if_pos q6]⟩ (by dsimp only; omega)) ⟨rfl, rfl, rfl, rfl, rfl, rfl, rfl, lookI rfl (by dsimp only; omega), trivial⟩ (HS.cons rfl (HS.chunk (HS.chunk HS.last)))
                    | exact GE_to (ih2 (j + 1, v) ⟨by dsimp only; omega, by dsimp only; rw [lastIx, if_neg q6]; exact hv⟩ (by dsimp only; omega)) ⟨rfl, rfl, rfl, rfl, rfl, rfl, rfl, lookI rfl (by dsimp only; omega), trivial⟩ (HS.cons rfl (HS.chunk (HS.chunk HS.last)))
              · have hvx : v = ix l (stz (gw (w9 row) 1)) := (by rw [hv, show j = l.length by omega]; rfl); have e9 : ((rw9 s).take (k + 1)).map (pr2 l) = ((rw9 s).take k).map (pr2 l) ++ [⟨v, nmr (gw (w9 row) 2), nmr (gw (w9 row) 3), nmr (gw (w9 row) 4), nmr (gw (w9 row) 5), nmr (gw (w9 row) 6), nmr (gw (w9 row) 7)⟩] := (by rw [p2_succ hkl, hvx, hrow]; rfl)
                refine GE_exit rfl ?_
                refine GE_slots (L' := [(0, _), (1, _), (6, _), (7, _), (8, _), (10, _)]) ⟨rfl, rfl, rfl, rfl, rfl, rfl, trivial⟩ ?_
                refine GE_plain (.st 0 (.st 1 (.ld 2 [] (.ld 3 [] (.ld 4 [] .nil))))) rfl ?_
                refine GT_st rfl rfl rfl rfl (V_move rfl rfl) ?_
                refine GT_st rfl rfl rfl rfl (V_loadN (vs := [_, _, _, _, _, _, _]) rfl rfl ag_59 sz_59 rfl (CellsAt.item rfl)) ?_
                refine GT_buildSlice (z := [_, _, _, _, _, _, _]) rfl rfl rfl rfl rfl Tryz.underlying23 zc_59 sz_59 (by decide) rfl rfl (fun _ => GR_nil) (fun b82 => ?_)
                refine GT_append (enc := ePrt) (m := [⟨v, nmr (gw (w9 row) 2), nmr (gw (w9 row) 3), nmr (gw (w9 row) 4), nmr (gw (w9 row) 5), nmr (gw (w9 row) 6), nmr (gw (w9 row) 7)⟩]) rfl rfl rfl rfl rfl rfl rfl hO (fun w m => RdL.own' m ePrt_len) Tryz.underlying23 zc_59 sz_59 ⟨rfl, by decide⟩ by_59 ⟨by rw [hpl]; simp only [List.length_singleton]; omega, by rw [hpl]; simp only [List.length_singleton]; omega⟩ ePrt_len ePrt_one (fun _ _ _ _ => GR_nil) (fun A5 c5 I5 hO5 => ?_)
                refine GT_ldv rfl rfl rfl rfl rfl (V_assign rfl rfl) (GR_nil) ?_
                refine GT_nil ?_
                refine GE_inBlock ?_
                refine GE_slots (L' := [(0, _), (1, _), (6, _), (7, _), (8, _)]) ⟨rfl, rfl, rfl, rfl, rfl, trivial⟩ ?_
                refine GE_plain (.st 0 (.st 1 (.ld 2 [] .nil))) rfl ?_
                refine GT_st rfl rfl rfl rfl (V_move rfl rfl) ?_
                refine GT_st rfl rfl rfl rfl (V_add rfl rfl rfl (wrap_i64 (by omega))) ?_
                refine GT_ldv rfl rfl rfl rfl rfl (V_assign rfl rfl) (GR_nil) ?_
                refine GT_nil ?_
                rw [← e9] at hO5 ⊢; exact GE_to (ih (k + 1, (A5, c5, I5)) ⟨by dsimp only; omega, hO5⟩ (by dsimp only; omega)) ⟨rfl, rfl, rfl, rfl, lookI rfl (by dsimp only; omega), trivial⟩ (HS.chunk HS.last)
            · exact ⟨Nat.zero_le _, rfl⟩
          · skip
            refine GE_slots (L' := [(0, _), (1, _), (6, _), (7, _), (8, _), (9, _)]) ⟨rfl, rfl, rfl, rfl, rfl, rfl, trivial⟩ ?_
            refine GE_drawn (.st 0 (.st 1 (.st 2 (.st 4 (.st 5 (.st 6 (.st 8 (.st 9 (.st 10 (.st 12 (.st 13 (.st 14 (.st 16 (.st 17 (.st 18 (.st 20 (.st 21 (.st 22 (.br (.ld 3 [4, 5, 6, 8, 9, 10, 12, 13, 14, 16, 17, 18, 20, 21, 22] (.br (.ld 7 [8, 9, 10, 12, 13, 14, 16, 17, 18, 20, 21, 22] (.br (.ld 11 [12, 13, 14, 16, 17, 18, 20, 21, 22] (.br (.ld 15 [16, 17, 18, 20, 21, 22] (.br (.ld 19 [20, 21, 22] (.br (.ld 23 [] (.st 24 (.ld 25 [0, 1, 2, 4, 5, 6, 8, 9, 10, 12, 13, 14, 16, 17, 18, 20, 21, 22, 24] (.ld 26 [] .nil)))) (.ld 25 [0, 1, 2, 4, 5, 6, 8, 9, 10, 12, 13, 14, 16, 17, 18, 20, 21, 22] (.ld 23 [] (.st 24 (.ld 26 [] .nil)))))) (.ld 25 [0, 1, 2, 4, 5, 6, 8, 9, 10, 12, 13, 14, 16, 17, 18, 20, 21, 22] (.ld 19 [20, 21, 22] (.ld 23 [] (.st 24 (.ld 26 [] .nil))))))) (.ld 25 [0, 1, 2, 4, 5, 6, 8, 9, 10, 12, 13, 14, 16, 17, 18, 20, 21, 22] (.ld 15 [16, 17, 18, 20, 21, 22] (.ld 19 [20, 21, 22] (.ld 23 [] (.st 24 (.ld 26 [] .nil)))))))) (.ld 25 [0, 1, 2, 4, 5, 6, 8, 9, 10, 12, 13, 14, 16, 17, 18, 20, 21, 22] (.ld 11 [12, 13, 14, 16, 17, 18, 20, 21, 22] (.ld 15 [16, 17, 18, 20, 21, 22] (.ld 19 [20, 21, 22] (.ld 23 [] (.st 24 (.ld 26 [] .nil))))))))) (.ld 25 [0, 1, 2, 4, 5, 6, 8, 9, 10, 12, 13, 14, 16, 17, 18, 20, 21, 22] (.ld 7 [8, 9, 10, 12, 13, 14, 16, 17, 18, 20, 21, 22] (.ld 11 [12, 13, 14, 16, 17, 18, 20, 21, 22] (.ld 15 [16, 17, 18, 20, 21, 22] (.ld 19 [20, 21, 22] (.ld 23 [] (.st 24 (.ld 26 [] .nil)))))))))) (.ld 25 [0, 1, 2, 4, 5, 6, 8, 9, 10, 12, 13, 14, 16, 17, 18, 20, 21, 22] (.ld 3 [4, 5, 6, 8, 9, 10, 12, 13, 14, 16, 17, 18, 20, 21, 22] (.ld 7 [8, 9, 10, 12, 13, 14, 16, 17, 18, 20, 21, 22] (.ld 11 [12, 13, 14, 16, 17, 18, 20, 21, 22] (.ld 15 [16, 17, 18, 20, 21, 22] (.ld 19 [20, 21, 22] (.ld 23 [] (.st 24 (.ld 26 [] .nil)))))))))))))))))))))))))))) [3, 7, 11, 15, 19, 23, 25, 26] (by decide +kernel) ?_
            refine GT_st rfl rfl rfl rfl (V_move rfl rfl) ?_
            refine GT_st rfl rfl rfl rfl (V_index (k := 2) rfl rfl rfl Tryz.underlying75 sz_9 rfl (by show _ < (w9 row).length; omega) (hO4.isSome (k := 2) (by omega))) ?_
            refine GT_st rfl rfl rfl rfl (V_load rfl rfl ag_9 (CellAt.own0 (k := 2) hO4 eB_len (by omega) (show _ = some (Value.string (stz (gw (w9 row) 2))) from rfl))) ?_
            refine GT_st rfl rfl rfl rfl (V_move rfl rfl) ?_
            refine GT_st rfl rfl rfl rfl (V_index (k := 3) rfl rfl rfl Tryz.underlying75 sz_9 rfl (by show _ < (w9 row).length; omega) (hO4.isSome (k := 3) (by omega))) ?_
            refine GT_st rfl rfl rfl rfl (V_load rfl rfl ag_9 (CellAt.own0 (k := 3) hO4 eB_len (by omega) (show _ = some (Value.string (stz (gw (w9 row) 3))) from rfl))) ?_
            refine GT_st rfl rfl rfl rfl (V_move rfl rfl) ?_
            refine GT_st rfl rfl rfl rfl (V_index (k := 4) rfl rfl rfl Tryz.underlying75 sz_9 rfl (by show _ < (w9 row).length; omega) (hO4.isSome (k := 4) (by omega))) ?_
            refine GT_st rfl rfl rfl rfl (V_load rfl rfl ag_9 (CellAt.own0 (k := 4) hO4 eB_len (by omega) (show _ = some (Value.string (stz (gw (w9 row) 4))) from rfl))) ?_
            refine GT_st rfl rfl rfl rfl (V_move rfl rfl) ?_
            refine GT_st rfl rfl rfl rfl (V_index (k := 5) rfl rfl rfl Tryz.underlying75 sz_9 rfl (by show _ < (w9 row).length; omega) (hO4.isSome (k := 5) (by omega))) ?_
            refine GT_st rfl rfl rfl rfl (V_load rfl rfl ag_9 (CellAt.own0 (k := 5) hO4 eB_len (by omega) (show _ = some (Value.string (stz (gw (w9 row) 5))) from rfl))) ?_
            refine GT_st rfl rfl rfl rfl (V_move rfl rfl) ?_
            refine GT_st rfl rfl rfl rfl (V_index (k := 6) rfl rfl rfl Tryz.underlying75 sz_9 rfl (by show _ < (w9 row).length; omega) (hO4.isSome (k := 6) (by omega))) ?_
            refine GT_st rfl rfl rfl rfl (V_load rfl rfl ag_9 (CellAt.own0 (k := 6) hO4 eB_len (by omega) (show _ = some (Value.string (stz (gw (w9 row) 6))) from rfl))) ?_
            refine GT_st rfl rfl rfl rfl (V_move rfl rfl) ?_
            refine GT_st rfl rfl rfl rfl (V_index (k := 7) rfl rfl rfl Tryz.underlying75 sz_9 rfl (by show _ < (w9 row).length; omega) (hO4.isSome (k := 7) (by omega))) ?_
            refine GT_st rfl rfl rfl rfl (V_load rfl rfl ag_9 (CellAt.own0 (k := 7) hO4 eB_len (by omega) (show _ = some (Value.string (stz (gw (w9 row) 7))) from rfl))) ?_
            refine GT_br ?_ ?_
            · skip
              refine GT_call0 rfl rfl rfl rfl rfl rfl rfl rfl rn_32 (fun w hw => C_Number) (GR_cons rfl rfl rfl rfl (V_move rfl rfl) (GR_cons rfl rfl rfl rfl (V_index (k := 3) rfl rfl rfl Tryz.underlying75 sz_9 rfl (by show _ < (w9 row).length; omega) (hO4.isSome (k := 3) (by omega))) (GR_cons rfl rfl rfl rfl (V_load rfl rfl ag_9 (CellAt.own0 (k := 3) hO4 eB_len (by omega) (show _ = some (Value.string (stz (gw (w9 row) 3))) from rfl))) (GR_cons rfl rfl rfl rfl (V_move rfl rfl) (GR_cons rfl rfl rfl rfl (V_index (k := 4) rfl rfl rfl Tryz.underlying75 sz_9 rfl (by show _ < (w9 row).length; omega) (hO4.isSome (k := 4) (by omega))) (GR_cons rfl rfl rfl rfl (V_load rfl rfl ag_9 (CellAt.own0 (k := 4) hO4 eB_len (by omega) (show _ = some (Value.string (stz (gw (w9 row) 4))) from rfl))) (GR_cons rfl rfl rfl rfl (V_move rfl rfl) (GR_cons rfl rfl rfl rfl (V_index (k := 5) rfl rfl rfl Tryz.underlying75 sz_9 rfl (by show _ < (w9 row).length; omega) (hO4.isSome (k := 5) (by omega))) (GR_cons rfl rfl rfl rfl (V_load rfl rfl ag_9 (CellAt.own0 (k := 5) hO4 eB_len (by omega) (show _ = some (Value.string (stz (gw (w9 row) 5))) from rfl))) (GR_cons rfl rfl rfl rfl (V_move rfl rfl) (GR_cons rfl rfl rfl rfl (V_index (k := 6) rfl rfl rfl Tryz.underlying75 sz_9 rfl (by show _ < (w9 row).length; omega) (hO4.isSome (k := 6) (by omega))) (GR_cons rfl rfl rfl rfl (V_load rfl rfl ag_9 (CellAt.own0 (k := 6) hO4 eB_len (by omega) (show _ = some (Value.string (stz (gw (w9 row) 6))) from rfl))) (GR_cons rfl rfl rfl rfl (V_move rfl rfl) (GR_cons rfl rfl rfl rfl (V_index (k := 7) rfl rfl rfl Tryz.underlying75 sz_9 rfl (by show _ < (w9 row).length; omega) (hO4.isSome (k := 7) (by omega))) (GR_cons rfl rfl rfl rfl (V_load rfl rfl ag_9 (CellAt.own0 (k := 7) hO4 eB_len (by omega) (show _ = some (Value.string (stz (gw (w9 row) 7))) from rfl))) (GR_nil)))))))))))))))) ?_
              refine GT_br ?_ ?_
              · skip
                refine GT_call0 rfl rfl rfl rfl rfl rfl rfl rfl rn_32 (fun w hw => C_Number) (GR_cons rfl rfl rfl rfl (V_move rfl rfl) (GR_cons rfl rfl rfl rfl (V_index (k := 4) rfl rfl rfl Tryz.underlying75 sz_9 rfl (by show _ < (w9 row).length; omega) (hO4.isSome (k := 4) (by omega))) (GR_cons rfl rfl rfl rfl (V_load rfl rfl ag_9 (CellAt.own0 (k := 4) hO4 eB_len (by omega) (show _ = some (Value.string (stz (gw (w9 row) 4))) from rfl))) (GR_cons rfl rfl rfl rfl (V_move rfl rfl) (GR_cons rfl rfl rfl rfl (V_index (k := 5) rfl rfl rfl Tryz.underlying75 sz_9 rfl (by show _ < (w9 row).length; omega) (hO4.isSome (k := 5) (by omega))) (GR_cons rfl rfl rfl rfl (V_load rfl rfl ag_9 (CellAt.own0 (k := 5) hO4 eB_len (by omega) (show _ = some (Value.string (stz (gw (w9 row) 5))) from rfl))) (GR_cons rfl rfl rfl rfl (V_move rfl rfl) (GR_cons rfl rfl rfl rfl (V_index (k := 6) rfl rfl rfl Tryz.underlying75 sz_9 rfl (by show _ < (w9 row).length; omega) (hO4.isSome (k := 6) (by omega))) (GR_cons rfl rfl rfl rfl (V_load rfl rfl ag_9 (CellAt.own0 (k := 6) hO4 eB_len (by omega) (show _ = some (Value.string (stz (gw (w9 row) 6))) from rfl))) (GR_cons rfl rfl rfl rfl (V_move rfl rfl) (GR_cons rfl rfl rfl rfl (V_index (k := 7) rfl rfl rfl Tryz.underlying75 sz_9 rfl (by show _ < (w9 row).length; omega) (hO4.isSome (k := 7) (by omega))) (GR_cons rfl rfl rfl rfl (V_load rfl rfl ag_9 (CellAt.own0 (k := 7) hO4 eB_len (by omega) (show _ = some (Value.string (stz (gw (w9 row) 7))) from rfl))) (GR_nil))))))))))))) ?_
                refine GT_br ?_ ?_
                · skip
                  refine GT_call0 rfl rfl rfl rfl rfl rfl rfl rfl rn_32 (fun w hw => C_Number) (GR_cons rfl rfl rfl rfl (V_move rfl rfl) (GR_cons rfl rfl rfl rfl (V_index (k := 5) rfl rfl rfl Tryz.underlying75 sz_9 rfl (by show _ < (w9 row).length; omega) (hO4.isSome (k := 5) (by omega))) (GR_cons rfl rfl rfl rfl (V_load rfl rfl ag_9 (CellAt.own0 (k := 5) hO4 eB_len (by omega) (show _ = some (Value.string (stz (gw (w9 row) 5))) from rfl))) (GR_cons rfl rfl rfl rfl (V_move rfl rfl) (GR_cons rfl rfl rfl rfl (V_index (k := 6) rfl rfl rfl Tryz.underlying75 sz_9 rfl (by show _ < (w9 row).length; omega) (hO4.isSome (k := 6) (by omega))) (GR_cons rfl rfl rfl rfl (V_load rfl rfl ag_9 (CellAt.own0 (k := 6) hO4 eB_len (by omega) (show _ = some (Value.string (stz (gw (w9 row) 6))) from rfl))) (GR_cons rfl rfl rfl rfl (V_move rfl rfl) (GR_cons rfl rfl rfl rfl (V_index (k := 7) rfl rfl rfl Tryz.underlying75 sz_9 rfl (by show _ < (w9 row).length; omega) (hO4.isSome (k := 7) (by omega))) (GR_cons rfl rfl rfl rfl (V_load rfl rfl ag_9 (CellAt.own0 (k := 7) hO4 eB_len (by omega) (show _ = some (Value.string (stz (gw (w9 row) 7))) from rfl))) (GR_nil)))))))))) ?_
                  refine GT_br ?_ ?_
                  · skip
                    refine GT_call0 rfl rfl rfl rfl rfl rfl rfl rfl rn_32 (fun w hw => C_Number) (GR_cons rfl rfl rfl rfl (V_move rfl rfl) (GR_cons rfl rfl rfl rfl (V_index (k := 6) rfl rfl rfl Tryz.underlying75 sz_9 rfl (by show _ < (w9 row).length; omega) (hO4.isSome (k := 6) (by omega))) (GR_cons rfl rfl rfl rfl (V_load rfl rfl ag_9 (CellAt.own0 (k := 6) hO4 eB_len (by omega) (show _ = some (Value.string (stz (gw (w9 row) 6))) from rfl))) (GR_cons rfl rfl rfl rfl (V_move rfl rfl) (GR_cons rfl rfl rfl rfl (V_index (k := 7) rfl rfl rfl Tryz.underlying75 sz_9 rfl (by show _ < (w9 row).length; omega) (hO4.isSome (k := 7) (by omega))) (GR_cons rfl rfl rfl rfl (V_load rfl rfl ag_9 (CellAt.own0 (k := 7) hO4 eB_len (by omega) (show _ = some (Value.string (stz (gw (w9 row) 7))) from rfl))) (GR_nil))))))) ?_
                    refine GT_br ?_ ?_
                    · skip
                      refine GT_call0 rfl rfl rfl rfl rfl rfl rfl rfl rn_32 (fun w hw => C_Number) (GR_cons rfl rfl rfl rfl (V_move rfl rfl) (GR_cons rfl rfl rfl rfl (V_index (k := 7) rfl rfl rfl Tryz.underlying75 sz_9 rfl (by show _ < (w9 row).length; omega) (hO4.isSome (k := 7) (by omega))) (GR_cons rfl rfl rfl rfl (V_load rfl rfl ag_9 (CellAt.own0 (k := 7) hO4 eB_len (by omega) (show _ = some (Value.string (stz (gw (w9 row) 7))) from rfl))) (GR_nil)))) ?_
                      refine GT_br ?_ ?_
                      · skip
                        refine GT_call0 rfl rfl rfl rfl rfl rfl rfl rfl rn_32 (fun w hw => C_Number) (GR_nil) ?_
                        refine GT_st rfl rfl rfl rfl (V_build (vs := [_, _, _, _, _, _, _]) rfl rfl zc_59 pl_59 sa_59 rfl) ?_
                        refine GT_alloc rfl rfl rfl rfl rfl zc_59 (fun _ => GR_cons rfl rfl rfl rfl (V_move rfl rfl) (GR_cons rfl rfl rfl rfl (V_index (k := 2) rfl rfl rfl Tryz.underlying75 sz_9 rfl (by show _ < (w9 row).length; omega) (hO4.isSome (k := 2) (by omega))) (GR_cons rfl rfl rfl rfl (V_load rfl rfl ag_9 (CellAt.own0 (k := 2) hO4 eB_len (by omega) (show _ = some (Value.string (stz (gw (w9 row) 2))) from rfl))) (GR_cons rfl rfl rfl rfl (V_move rfl rfl) (GR_cons rfl rfl rfl rfl (V_index (k := 3) rfl rfl rfl Tryz.underlying75 sz_9 rfl (by show _ < (w9 row).length; omega) (hO4.isSome (k := 3) (by omega))) (GR_cons rfl rfl rfl rfl (V_load rfl rfl ag_9 (CellAt.own0 (k := 3) hO4 eB_len (by omega) (show _ = some (Value.string (stz (gw (w9 row) 3))) from rfl))) (GR_cons rfl rfl rfl rfl (V_move rfl rfl) (GR_cons rfl rfl rfl rfl (V_index (k := 4) rfl rfl rfl Tryz.underlying75 sz_9 rfl (by show _ < (w9 row).length; omega) (hO4.isSome (k := 4) (by omega))) (GR_cons rfl rfl rfl rfl (V_load rfl rfl ag_9 (CellAt.own0 (k := 4) hO4 eB_len (by omega) (show _ = some (Value.string (stz (gw (w9 row) 4))) from rfl))) (GR_cons rfl rfl rfl rfl (V_move rfl rfl) (GR_cons rfl rfl rfl rfl (V_index (k := 5) rfl rfl rfl Tryz.underlying75 sz_9 rfl (by show _ < (w9 row).length; omega) (hO4.isSome (k := 5) (by omega))) (GR_cons rfl rfl rfl rfl (V_load rfl rfl ag_9 (CellAt.own0 (k := 5) hO4 eB_len (by omega) (show _ = some (Value.string (stz (gw (w9 row) 5))) from rfl))) (GR_cons rfl rfl rfl rfl (V_move rfl rfl) (GR_cons rfl rfl rfl rfl (V_index (k := 6) rfl rfl rfl Tryz.underlying75 sz_9 rfl (by show _ < (w9 row).length; omega) (hO4.isSome (k := 6) (by omega))) (GR_cons rfl rfl rfl rfl (V_load rfl rfl ag_9 (CellAt.own0 (k := 6) hO4 eB_len (by omega) (show _ = some (Value.string (stz (gw (w9 row) 6))) from rfl))) (GR_cons rfl rfl rfl rfl (V_move rfl rfl) (GR_cons rfl rfl rfl rfl (V_index (k := 7) rfl rfl rfl Tryz.underlying75 sz_9 rfl (by show _ < (w9 row).length; omega) (hO4.isSome (k := 7) (by omega))) (GR_cons rfl rfl rfl rfl (V_load rfl rfl ag_9 (CellAt.own0 (k := 7) hO4 eB_len (by omega) (show _ = some (Value.string (stz (gw (w9 row) 7))) from rfl))) (GR_cons rfl rfl rfl rfl (V_build (vs := [_, _, _, _, _, _, _]) rfl rfl zc_59 pl_59 sa_59 rfl) (GR_nil)))))))))))))))))))) (fun b10 => ?_)
                        refine GT_store (vs := [_, _, _, _, _, _, _]) (l' := [_, _, _, _, _, _, _]) rfl rfl rfl rfl rfl rfl rfl sz_59 rfl rfl (Nat.le_of_ble_eq_true rfl) rfl (GR_nil) ?_
                        refine GT_nil ?_
                        exact GE_to (hk b10 trivial) ⟨rfl, rfl, rfl, rfl, rfl, rfl, rfl, trivial⟩ (HS.cons rfl (HS.chunk (HS.chunk HS.last)))
                      · skip
                        refine GT_alloc rfl rfl rfl rfl rfl zc_59 (fun _ => GR_cons rfl rfl rfl rfl (V_move rfl rfl) (GR_cons rfl rfl rfl rfl (V_index (k := 2) rfl rfl rfl Tryz.underlying75 sz_9 rfl (by show _ < (w9 row).length; omega) (hO4.isSome (k := 2) (by omega))) (GR_cons rfl rfl rfl rfl (V_load rfl rfl ag_9 (CellAt.own0 (k := 2) hO4 eB_len (by omega) (show _ = some (Value.string (stz (gw (w9 row) 2))) from rfl))) (GR_cons rfl rfl rfl rfl (V_move rfl rfl) (GR_cons rfl rfl rfl rfl (V_index (k := 3) rfl rfl rfl Tryz.underlying75 sz_9 rfl (by show _ < (w9 row).length; omega) (hO4.isSome (k := 3) (by omega))) (GR_cons rfl rfl rfl rfl (V_load rfl rfl ag_9 (CellAt.own0 (k := 3) hO4 eB_len (by omega) (show _ = some (Value.string (stz (gw (w9 row) 3))) from rfl))) (GR_cons rfl rfl rfl rfl (V_move rfl rfl) (GR_cons rfl rfl rfl rfl (V_index (k := 4) rfl rfl rfl Tryz.underlying75 sz_9 rfl (by show _ < (w9 row).length; omega) (hO4.isSome (k := 4) (by omega))) (GR_cons rfl rfl rfl rfl (V_load rfl rfl ag_9 (CellAt.own0 (k := 4) hO4 eB_len (by omega) (show _ = some (Value.string (stz (gw (w9 row) 4))) from rfl))) (GR_cons rfl rfl rfl rfl (V_move rfl rfl) (GR_cons rfl rfl rfl rfl (V_index (k := 5) rfl rfl rfl Tryz.underlying75 sz_9 rfl (by show _ < (w9 row).length; omega) (hO4.isSome (k := 5) (by omega))) (GR_cons rfl rfl rfl rfl (V_load rfl rfl ag_9 (CellAt.own0 (k := 5) hO4 eB_len (by omega) (show _ = some (Value.string (stz (gw (w9 row) 5))) from rfl))) (GR_cons rfl rfl rfl rfl (V_move rfl rfl) (GR_cons rfl rfl rfl rfl (V_index (k := 6) rfl rfl rfl Tryz.underlying75 sz_9 rfl (by show _ < (w9 row).length; omega) (hO4.isSome (k := 6) (by omega))) (GR_cons rfl rfl rfl rfl (V_load rfl rfl ag_9 (CellAt.own0 (k := 6) hO4 eB_len (by omega) (show _ = some (Value.string (stz (gw (w9 row) 6))) from rfl))) (GR_cons rfl rfl rfl rfl (V_move rfl rfl) (GR_cons rfl rfl rfl rfl (V_index (k := 7) rfl rfl rfl Tryz.underlying75 sz_9 rfl (by show _ < (w9 row).length; omega) (hO4.isSome (k := 7) (by omega))) (GR_cons rfl rfl rfl rfl (V_load rfl rfl ag_9 (CellAt.own0 (k := 7) hO4 eB_len (by omega) (show _ = some (Value.string (stz (gw (w9 row) 7))) from rfl))) (GR_nil))))))))))))))))))) (fun b10 => ?_)
                        refine GT_call0 rfl rfl rfl rfl rfl rfl rfl rfl rn_32 (fun w hw => C_Number) (GR_nil) ?_
                        refine GT_st rfl rfl rfl rfl (V_build (vs := [_, _, _, _, _, _, _]) rfl rfl zc_59 pl_59 sa_59 rfl) ?_
                        refine GT_store (vs := [_, _, _, _, _, _, _]) (l' := [_, _, _, _, _, _, _]) rfl rfl rfl rfl rfl rfl rfl sz_59 rfl rfl (Nat.le_of_ble_eq_true rfl) rfl (GR_nil) ?_
                        refine GT_nil ?_
                        exact GE_to (hk b10 trivial) ⟨rfl, rfl, rfl, rfl, rfl, rfl, rfl, trivial⟩ (HS.cons rfl (HS.chunk (HS.chunk HS.last)))
                    · skip
                      refine GT_alloc rfl rfl rfl rfl rfl zc_59 (fun _ => GR_cons rfl rfl rfl rfl (V_move rfl rfl) (GR_cons rfl rfl rfl rfl (V_index (k := 2) rfl rfl rfl Tryz.underlying75 sz_9 rfl (by show _ < (w9 row).length; omega) (hO4.isSome (k := 2) (by omega))) (GR_cons rfl rfl rfl rfl (V_load rfl rfl ag_9 (CellAt.own0 (k := 2) hO4 eB_len (by omega) (show _ = some (Value.string (stz (gw (w9 row) 2))) from rfl))) (GR_cons rfl rfl rfl rfl (V_move rfl rfl) (GR_cons rfl rfl rfl rfl (V_index (k := 3) rfl rfl rfl Tryz.underlying75 sz_9 rfl (by show _ < (w9 row).length; omega) (hO4.isSome (k := 3) (by omega))) (GR_cons rfl rfl rfl rfl (V_load rfl rfl ag_9 (CellAt.own0 (k := 3) hO4 eB_len (by omega) (show _ = some (Value.string (stz (gw (w9 row) 3))) from rfl))) (GR_cons rfl rfl rfl rfl (V_move rfl rfl) (GR_cons rfl rfl rfl rfl (V_index (k := 4) rfl rfl rfl Tryz.underlying75 sz_9 rfl (by show _ < (w9 row).length; omega) (hO4.isSome (k := 4) (by omega))) (GR_cons rfl rfl rfl rfl (V_load rfl rfl ag_9 (CellAt.own0 (k := 4) hO4 eB_len (by omega) (show _ = some (Value.string (stz (gw (w9 row) 4))) from rfl))) (GR_cons rfl rfl rfl rfl (V_move rfl rfl) (GR_cons rfl rfl rfl rfl (V_index (k := 5) rfl rfl rfl Tryz.underlying75 sz_9 rfl (by show _ < (w9 row).length; omega) (hO4.isSome (k := 5) (by omega))) (GR_cons rfl rfl rfl rfl (V_load rfl rfl ag_9 (CellAt.own0 (k := 5) hO4 eB_len (by omega) (show _ = some (Value.string (stz (gw (w9 row) 5))) from rfl))) (GR_cons rfl rfl rfl rfl (V_move rfl rfl) (GR_cons rfl rfl rfl rfl (V_index (k := 6) rfl rfl rfl Tryz.underlying75 sz_9 rfl (by show _ < (w9 row).length; omega) (hO4.isSome (k := 6) (by omega))) (GR_cons rfl rfl rfl rfl (V_load rfl rfl ag_9 (CellAt.own0 (k := 6) hO4 eB_len (by omega) (show _ = some (Value.string (stz (gw (w9 row) 6))) from rfl))) (GR_cons rfl rfl rfl rfl (V_move rfl rfl) (GR_cons rfl rfl rfl rfl (V_index (k := 7) rfl rfl rfl Tryz.underlying75 sz_9 rfl (by show _ < (w9 row).length; omega) (hO4.isSome (k := 7) (by omega))) (GR_cons rfl rfl rfl rfl (V_load rfl rfl ag_9 (CellAt.own0 (k := 7) hO4 eB_len (by omega) (show _ = some (Value.string (stz (gw (w9 row) 7))) from rfl))) (GR_nil))))))))))))))))))) (fun b10 => ?_)
                      refine GT_call0 rfl rfl rfl rfl rfl rfl rfl rfl rn_32 (fun w hw => C_Number) (GR_cons rfl rfl rfl rfl (V_move rfl rfl) (GR_cons rfl rfl rfl rfl (V_index (k := 7) rfl rfl rfl Tryz.underlying75 sz_9 rfl (by show _ < (w9 row).length; omega) (hO4.isSome (k := 7) (by omega))) (GR_cons rfl rfl rfl rfl (V_load rfl rfl ag_9 (CellAt.own0 (k := 7) hO4 eB_len (by omega) (show _ = some (Value.string (stz (gw (w9 row) 7))) from rfl))) (GR_nil)))) ?_
                      refine GT_call0 rfl rfl rfl rfl rfl rfl rfl rfl rn_32 (fun w hw => C_Number) (GR_nil) ?_
                      refine GT_st rfl rfl rfl rfl (V_build (vs := [_, _, _, _, _, _, _]) rfl rfl zc_59 pl_59 sa_59 rfl) ?_
                      refine GT_store (vs := [_, _, _, _, _, _, _]) (l' := [_, _, _, _, _, _, _]) rfl rfl rfl rfl rfl rfl rfl sz_59 rfl rfl (Nat.le_of_ble_eq_true rfl) rfl (GR_nil) ?_
                      refine GT_nil ?_
                      exact GE_to (hk b10 trivial) ⟨rfl, rfl, rfl, rfl, rfl, rfl, rfl, trivial⟩ (HS.cons rfl (HS.chunk (HS.chunk HS.last)))
                  · skip
                    refine GT_alloc rfl rfl rfl rfl rfl zc_59 (fun _ => GR_cons rfl rfl rfl rfl (V_move rfl rfl) (GR_cons rfl rfl rfl rfl (V_index (k := 2) rfl rfl rfl Tryz.underlying75 sz_9 rfl (by show _ < (w9 row).length; omega) (hO4.isSome (k := 2) (by omega))) (GR_cons rfl rfl rfl rfl (V_load rfl rfl ag_9 (CellAt.own0 (k := 2) hO4 eB_len (by omega) (show _ = some (Value.string (stz (gw (w9 row) 2))) from rfl))) (GR_cons rfl rfl rfl rfl (V_move rfl rfl) (GR_cons rfl rfl rfl rfl (V_index (k := 3) rfl rfl rfl Tryz.underlying75 sz_9 rfl (by show _ < (w9 row).length; omega) (hO4.isSome (k := 3) (by omega))) (GR_cons rfl rfl rfl rfl (V_load rfl rfl ag_9 (CellAt.own0 (k := 3) hO4 eB_len (by omega) (show _ = some (Value.string (stz (gw (w9 row) 3))) from rfl))) (GR_cons rfl rfl rfl rfl (V_move rfl rfl) (GR_cons rfl rfl rfl rfl (V_index (k := 4) rfl rfl rfl Tryz.underlying75 sz_9 rfl (by show _ < (w9 row).length; omega) (hO4.isSome (k := 4) (by omega))) (GR_cons rfl rfl rfl rfl (V_load rfl rfl ag_9 (CellAt.own0 (k := 4) hO4 eB_len (by omega) (show _ = some (Value.string (stz (gw (w9 row) 4))) from rfl))) (GR_cons rfl rfl rfl rfl (V_move rfl rfl) (GR_cons rfl rfl rfl rfl (V_index (k := 5) rfl rfl rfl Tryz.underlying75 sz_9 rfl (by show _ < (w9 row).length; omega) (hO4.isSome (k := 5) (by omega))) (GR_cons rfl rfl rfl rfl (V_load rfl rfl ag_9 (CellAt.own0 (k := 5) hO4 eB_len (by omega) (show _ = some (Value.string (stz (gw (w9 row) 5))) from rfl))) (GR_cons rfl rfl rfl rfl (V_move rfl rfl) (GR_cons rfl rfl rfl rfl (V_index (k := 6) rfl rfl rfl Tryz.underlying75 sz_9 rfl (by show _ < (w9 row).length; omega) (hO4.isSome (k := 6) (by omega))) (GR_cons rfl rfl rfl rfl (V_load rfl rfl ag_9 (CellAt.own0 (k := 6) hO4 eB_len (by omega) (show _ = some (Value.string (stz (gw (w9 row) 6))) from rfl))) (GR_cons rfl rfl rfl rfl (V_move rfl rfl) (GR_cons rfl rfl rfl rfl (V_index (k := 7) rfl rfl rfl Tryz.underlying75 sz_9 rfl (by show _ < (w9 row).length; omega) (hO4.isSome (k := 7) (by omega))) (GR_cons rfl rfl rfl rfl (V_load rfl rfl ag_9 (CellAt.own0 (k := 7) hO4 eB_len (by omega) (show _ = some (Value.string (stz (gw (w9 row) 7))) from rfl))) (GR_nil))))))))))))))))))) (fun b10 => ?_)
                    refine GT_call0 rfl rfl rfl rfl rfl rfl rfl rfl rn_32 (fun w hw => C_Number) (GR_cons rfl rfl rfl rfl (V_move rfl rfl) (GR_cons rfl rfl rfl rfl (V_index (k := 6) rfl rfl rfl Tryz.underlying75 sz_9 rfl (by show _ < (w9 row).length; omega) (hO4.isSome (k := 6) (by omega))) (GR_cons rfl rfl rfl rfl (V_load rfl rfl ag_9 (CellAt.own0 (k := 6) hO4 eB_len (by omega) (show _ = some (Value.string (stz (gw (w9 row) 6))) from rfl))) (GR_cons rfl rfl rfl rfl (V_move rfl rfl) (GR_cons rfl rfl rfl rfl (V_index (k := 7) rfl rfl rfl Tryz.underlying75 sz_9 rfl (by show _ < (w9 row).length; omega) (hO4.isSome (k := 7) (by omega))) (GR_cons rfl rfl rfl rfl (V_load rfl rfl ag_9 (CellAt.own0 (k := 7) hO4 eB_len (by omega) (show _ = some (Value.string (stz (gw (w9 row) 7))) from rfl))) (GR_nil))))))) ?_
                    refine GT_call0 rfl rfl rfl rfl rfl rfl rfl rfl rn_32 (fun w hw => C_Number) (GR_cons rfl rfl rfl rfl (V_move rfl rfl) (GR_cons rfl rfl rfl rfl (V_index (k := 7) rfl rfl rfl Tryz.underlying75 sz_9 rfl (by show _ < (w9 row).length; omega) (hO4.isSome (k := 7) (by omega))) (GR_cons rfl rfl rfl rfl (V_load rfl rfl ag_9 (CellAt.own0 (k := 7) hO4 eB_len (by omega) (show _ = some (Value.string (stz (gw (w9 row) 7))) from rfl))) (GR_nil)))) ?_
                    refine GT_call0 rfl rfl rfl rfl rfl rfl rfl rfl rn_32 (fun w hw => C_Number) (GR_nil) ?_
                    refine GT_st rfl rfl rfl rfl (V_build (vs := [_, _, _, _, _, _, _]) rfl rfl zc_59 pl_59 sa_59 rfl) ?_
                    refine GT_store (vs := [_, _, _, _, _, _, _]) (l' := [_, _, _, _, _, _, _]) rfl rfl rfl rfl rfl rfl rfl sz_59 rfl rfl (Nat.le_of_ble_eq_true rfl) rfl (GR_nil) ?_
                    refine GT_nil ?_
                    exact GE_to (hk b10 trivial) ⟨rfl, rfl, rfl, rfl, rfl, rfl, rfl, trivial⟩ (HS.cons rfl (HS.chunk (HS.chunk HS.last)))
                · skip
                  refine GT_alloc rfl rfl rfl rfl rfl zc_59 (fun _ => GR_cons rfl rfl rfl rfl (V_move rfl rfl) (GR_cons rfl rfl rfl rfl (V_index (k := 2) rfl rfl rfl Tryz.underlying75 sz_9 rfl (by show _ < (w9 row).length; omega) (hO4.isSome (k := 2) (by omega))) (GR_cons rfl rfl rfl rfl (V_load rfl rfl ag_9 (CellAt.own0 (k := 2) hO4 eB_len (by omega) (show _ = some (Value.string (stz (gw (w9 row) 2))) from rfl))) (GR_cons rfl rfl rfl rfl (V_move rfl rfl) (GR_cons rfl rfl rfl rfl (V_index (k := 3) rfl rfl rfl Tryz.underlying75 sz_9 rfl (by show _ < (w9 row).length; omega) (hO4.isSome (k := 3) (by omega))) (GR_cons rfl rfl rfl rfl (V_load rfl rfl ag_9 (CellAt.own0 (k := 3) hO4 eB_len (by omega) (show _ = some (Value.string (stz (gw (w9 row) 3))) from rfl))) (GR_cons rfl rfl rfl rfl (V_move rfl rfl) (GR_cons rfl rfl rfl rfl (V_index (k := 4) rfl rfl rfl Tryz.underlying75 sz_9 rfl (by show _ < (w9 row).length; omega) (hO4.isSome (k := 4) (by omega))) (GR_cons rfl rfl rfl rfl (V_load rfl rfl ag_9 (CellAt.own0 (k := 4) hO4 eB_len (by omega) (show _ = some (Value.string (stz (gw (w9 row) 4))) from rfl))) (GR_cons rfl rfl rfl rfl (V_move rfl rfl) (GR_cons rfl rfl rfl rfl (V_index (k := 5) rfl rfl rfl Tryz.underlying75 sz_9 rfl (by show _ < (w9 row).length; omega) (hO4.isSome (k := 5) (by omega))) (GR_cons rfl rfl rfl rfl (V_load rfl rfl ag_9 (CellAt.own0 (k := 5) hO4 eB_len (by omega) (show _ = some (Value.string (stz (gw (w9 row) 5))) from rfl))) (GR_cons rfl rfl rfl rfl (V_move rfl rfl) (GR_cons rfl rfl rfl rfl (V_index (k := 6) rfl rfl rfl Tryz.underlying75 sz_9 rfl (by show _ < (w9 row).length; omega) (hO4.isSome (k := 6) (by omega))) (GR_cons rfl rfl rfl rfl (V_load rfl rfl ag_9 (CellAt.own0 (k := 6) hO4 eB_len (by omega) (show _ = some (Value.string (stz (gw (w9 row) 6))) from rfl))) (GR_cons rfl rfl rfl rfl (V_move rfl rfl) (GR_cons rfl rfl rfl rfl (V_index (k := 7) rfl rfl rfl Tryz.underlying75 sz_9 rfl (by show _ < (w9 row).length; omega) (hO4.isSome (k := 7) (by omega))) (GR_cons rfl rfl rfl rfl (V_load rfl rfl ag_9 (CellAt.own0 (k := 7) hO4 eB_len (by omega) (show _ = some (Value.string (stz (gw (w9 row) 7))) from rfl))) (GR_nil))))))))))))))))))) (fun b10 => ?_)
                  refine GT_call0 rfl rfl rfl rfl rfl rfl rfl rfl rn_32 (fun w hw => C_Number) (GR_cons rfl rfl rfl rfl (V_move rfl rfl) (GR_cons rfl rfl rfl rfl (V_index (k := 5) rfl rfl rfl Tryz.underlying75 sz_9 rfl (by show _ < (w9 row).length; omega) (hO4.isSome (k := 5) (by omega))) (GR_cons rfl rfl rfl rfl (V_load rfl rfl ag_9 (CellAt.own0 (k := 5) hO4 eB_len (by omega) (show _ = some (Value.string (stz (gw (w9 row) 5))) from rfl))) (GR_cons rfl rfl rfl rfl (V_move rfl rfl) (GR_cons rfl rfl rfl rfl (V_index (k := 6) rfl rfl rfl Tryz.underlying75 sz_9 rfl (by show _ < (w9 row).length; omega) (hO4.isSome (k := 6) (by omega))) (GR_cons rfl rfl rfl rfl (V_load rfl rfl ag_9 (CellAt.own0 (k := 6) hO4 eB_len (by omega) (show _ = some (Value.string (stz (gw (w9 row) 6))) from rfl))) (GR_cons rfl rfl rfl rfl (V_move rfl rfl) (GR_cons rfl rfl rfl rfl (V_index (k := 7) rfl rfl rfl Tryz.underlying75 sz_9 rfl (by show _ < (w9 row).length; omega) (hO4.isSome (k := 7) (by omega))) (GR_cons rfl rfl rfl rfl (V_load rfl rfl ag_9 (CellAt.own0 (k := 7) hO4 eB_len (by omega) (show _ = some (Value.string (stz (gw (w9 row) 7))) from rfl))) (GR_nil)))))))))) ?_
                  refine GT_call0 rfl rfl rfl rfl rfl rfl rfl rfl rn_32 (fun w hw => C_Number) (GR_cons rfl rfl rfl rfl (V_move rfl rfl) (GR_cons rfl rfl rfl rfl (V_index (k := 6) rfl rfl rfl Tryz.underlying75 sz_9 rfl (by show _ < (w9 row).length; omega) (hO4.isSome (k := 6) (by omega))) (GR_cons rfl rfl rfl rfl (V_load rfl rfl ag_9 (CellAt.own0 (k := 6) hO4 eB_len (by omega) (show _ = some (Value.string (stz (gw (w9 row) 6))) from rfl))) (GR_cons rfl rfl rfl rfl (V_move rfl rfl) (GR_cons rfl rfl rfl rfl (V_index (k := 7) rfl rfl rfl Tryz.underlying75 sz_9 rfl (by show _ < (w9 row).length; omega) (hO4.isSome (k := 7) (by omega))) (GR_cons rfl rfl rfl rfl (V_load rfl rfl ag_9 (CellAt.own0 (k := 7) hO4 eB_len (by omega) (show _ = some (Value.string (stz (gw (w9 row) 7))) from rfl))) (GR_nil))))))) ?_
                  refine GT_call0 rfl rfl rfl rfl rfl rfl rfl rfl rn_32 (fun w hw => C_Number) (GR_cons rfl rfl rfl rfl (V_move rfl rfl) (GR_cons rfl rfl rfl rfl (V_index (k := 7) rfl rfl rfl Tryz.underlying75 sz_9 rfl (by show _ < (w9 row).length; omega) (hO4.isSome (k := 7) (by omega))) (GR_cons rfl rfl rfl rfl (V_load rfl rfl ag_9 (CellAt.own0 (k := 7) hO4 eB_len (by omega) (show _ = some (Value.string (stz (gw (w9 row) 7))) from rfl))) (GR_nil)))) ?_
                  refine GT_call0 rfl rfl rfl rfl rfl rfl rfl rfl rn_32 (fun w hw => C_Number) (GR_nil) ?_
                  refine GT_st rfl rfl rfl rfl (V_build (vs := [_, _, _, _, _, _, _]) rfl rfl zc_59 pl_59 sa_59 rfl) ?_
                  refine GT_store (vs := [_, _, _, _, _, _, _]) (l' := [_, _, _, _, _, _, _]) rfl rfl rfl rfl rfl rfl rfl sz_59 rfl rfl (Nat.le_of_ble_eq_true rfl) rfl (GR_nil) ?_
                  refine GT_nil ?_
                  exact GE_to (hk b10 trivial) ⟨rfl, rfl, rfl, rfl, rfl, rfl, rfl, trivial⟩ (HS.cons rfl (HS.chunk (HS.chunk HS.last)))
              · skip
                refine GT_alloc rfl rfl rfl rfl rfl zc_59 (fun _ => GR_cons rfl rfl rfl rfl (V_move rfl rfl) (GR_cons rfl rfl rfl rfl (V_index (k := 2) rfl rfl rfl Tryz.underlying75 sz_9 rfl (by show _ < (w9 row).length; omega) (hO4.isSome (k := 2) (by omega))) (GR_cons rfl rfl rfl rfl (V_load rfl rfl ag_9 (CellAt.own0 (k := 2) hO4 eB_len (by omega) (show _ = some (Value.string (stz (gw (w9 row) 2))) from rfl))) (GR_cons rfl rfl rfl rfl (V_move rfl rfl) (GR_cons rfl rfl rfl rfl (V_index (k := 3) rfl rfl rfl Tryz.underlying75 sz_9 rfl (by show _ < (w9 row).length; omega) (hO4.isSome (k := 3) (by omega))) (GR_cons rfl rfl rfl rfl (V_load rfl rfl ag_9 (CellAt.own0 (k := 3) hO4 eB_len (by omega) (show _ = some (Value.string (stz (gw (w9 row) 3))) from rfl))) (GR_cons rfl rfl rfl rfl (V_move rfl rfl) (GR_cons rfl rfl rfl rfl (V_index (k := 4) rfl rfl rfl Tryz.underlying75 sz_9 rfl (by show _ < (w9 row).length; omega) (hO4.isSome (k := 4) (by omega))) (GR_cons rfl rfl rfl rfl (V_load rfl rfl ag_9 (CellAt.own0 (k := 4) hO4 eB_len (by omega) (show _ = some (Value.string (stz (gw (w9 row) 4))) from rfl))) (GR_cons rfl rfl rfl rfl (V_move rfl rfl) (GR_cons rfl rfl rfl rfl (V_index (k := 5) rfl rfl rfl Tryz.underlying75 sz_9 rfl (by show _ < (w9 row).length; omega) (hO4.isSome (k := 5) (by omega))) (GR_cons rfl rfl rfl rfl (V_load rfl rfl ag_9 (CellAt.own0 (k := 5) hO4 eB_len (by omega) (show _ = some (Value.string (stz (gw (w9 row) 5))) from rfl))) (GR_cons rfl rfl rfl rfl (V_move rfl rfl) (GR_cons rfl rfl rfl rfl (V_index (k := 6) rfl rfl rfl Tryz.underlying75 sz_9 rfl (by show _ < (w9 row).length; omega) (hO4.isSome (k := 6) (by omega))) (GR_cons rfl rfl rfl rfl (V_load rfl rfl ag_9 (CellAt.own0 (k := 6) hO4 eB_len (by omega) (show _ = some (Value.string (stz (gw (w9 row) 6))) from rfl))) (GR_cons rfl rfl rfl rfl (V_move rfl rfl) (GR_cons rfl rfl rfl rfl (V_index (k := 7) rfl rfl rfl Tryz.underlying75 sz_9 rfl (by show _ < (w9 row).length; omega) (hO4.isSome (k := 7) (by omega))) (GR_cons rfl rfl rfl rfl (V_load rfl rfl ag_9 (CellAt.own0 (k := 7) hO4 eB_len (by omega) (show _ = some (Value.string (stz (gw (w9 row) 7))) from rfl))) (GR_nil))))))))))))))))))) (fun b10 => ?_)
                refine GT_call0 rfl rfl rfl rfl rfl rfl rfl rfl rn_32 (fun w hw => C_Number) (GR_cons rfl rfl rfl rfl (V_move rfl rfl) (GR_cons rfl rfl rfl rfl (V_index (k := 4) rfl rfl rfl Tryz.underlying75 sz_9 rfl (by show _ < (w9 row).length; omega) (hO4.isSome (k := 4) (by omega))) (GR_cons rfl rfl rfl rfl (V_load rfl rfl ag_9 (CellAt.own0 (k := 4) hO4 eB_len (by omega) (show _ = some (Value.string (stz (gw (w9 row) 4))) from rfl))) (GR_cons rfl rfl rfl rfl (V_move rfl rfl) (GR_cons rfl rfl rfl rfl (V_index (k := 5) rfl rfl rfl Tryz.underlying75 sz_9 rfl (by show _ < (w9 row).length; omega) (hO4.isSome (k := 5) (by omega))) (GR_cons rfl rfl rfl rfl (V_load rfl rfl ag_9 (CellAt.own0 (k := 5) hO4 eB_len (by omega) (show _ = some (Value.string (stz (gw (w9 row) 5))) from rfl))) (GR_cons rfl rfl rfl rfl (V_move rfl rfl) (GR_cons rfl rfl rfl rfl (V_index (k := 6) rfl rfl rfl Tryz.underlying75 sz_9 rfl (by show _ < (w9 row).length; omega) (hO4.isSome (k := 6) (by omega))) (GR_cons rfl rfl rfl rfl (V_load rfl rfl ag_9 (CellAt.own0 (k := 6) hO4 eB_len (by omega) (show _ = some (Value.string (stz (gw (w9 row) 6))) from rfl))) (GR_cons rfl rfl rfl rfl (V_move rfl rfl) (GR_cons rfl rfl rfl rfl (V_index (k := 7) rfl rfl rfl Tryz.underlying75 sz_9 rfl (by show _ < (w9 row).length; omega) (hO4.isSome (k := 7) (by omega))) (GR_cons rfl rfl rfl rfl (V_load rfl rfl ag_9 (CellAt.own0 (k := 7) hO4 eB_len (by omega) (show _ = some (Value.string (stz (gw (w9 row) 7))) from rfl))) (GR_nil))))))))))))) ?_
                refine GT_call0 rfl rfl rfl rfl rfl rfl rfl rfl rn_32 (fun w hw => C_Number) (GR_cons rfl rfl rfl rfl (V_move rfl rfl) (GR_cons rfl rfl rfl rfl (V_index (k := 5) rfl rfl rfl Tryz.underlying75 sz_9 rfl (by show _ < (w9 row).length; omega) (hO4.isSome (k := 5) (by omega))) (GR_cons rfl rfl rfl rfl (V_load rfl rfl ag_9 (CellAt.own0 (k := 5) hO4 eB_len (by omega) (show _ = some (Value.string (stz (gw (w9 row) 5))) from rfl))) (GR_cons rfl rfl rfl rfl (V_move rfl rfl) (GR_cons rfl rfl rfl rfl (V_index (k := 6) rfl rfl rfl Tryz.underlying75 sz_9 rfl (by show _ < (w9 row).length; omega) (hO4.isSome (k := 6) (by omega))) (GR_cons rfl rfl rfl rfl (V_load rfl rfl ag_9 (CellAt.own0 (k := 6) hO4 eB_len (by omega) (show _ = some (Value.string (stz (gw (w9 row) 6))) from rfl))) (GR_cons rfl rfl rfl rfl (V_move rfl rfl) (GR_cons rfl rfl rfl rfl (V_index (k := 7) rfl rfl rfl Tryz.underlying75 sz_9 rfl (by show _ < (w9 row).length; omega) (hO4.isSome (k := 7) (by omega))) (GR_cons rfl rfl rfl rfl (V_load rfl rfl ag_9 (CellAt.own0 (k := 7) hO4 eB_len (by omega) (show _ = some (Value.string (stz (gw (w9 row) 7))) from rfl))) (GR_nil)))))))))) ?_
                refine GT_call0 rfl rfl rfl rfl rfl rfl rfl rfl rn_32 (fun w hw => C_Number) (GR_cons rfl rfl rfl rfl (V_move rfl rfl) (GR_cons rfl rfl rfl rfl (V_index (k := 6) rfl rfl rfl Tryz.underlying75 sz_9 rfl (by show _ < (w9 row).length; omega) (hO4.isSome (k := 6) (by omega))) (GR_cons rfl rfl rfl rfl (V_load rfl rfl ag_9 (CellAt.own0 (k := 6) hO4 eB_len (by omega) (show _ = some (Value.string (stz (gw (w9 row) 6))) from rfl))) (GR_cons rfl rfl rfl rfl (V_move rfl rfl) (GR_cons rfl rfl rfl rfl (V_index (k := 7) rfl rfl rfl Tryz.underlying75 sz_9 rfl (by show _ < (w9 row).length; omega) (hO4.isSome (k := 7) (by omega))) (GR_cons rfl rfl rfl rfl (V_load rfl rfl ag_9 (CellAt.own0 (k := 7) hO4 eB_len (by omega) (show _ = some (Value.string (stz (gw (w9 row) 7))) from rfl))) (GR_nil))))))) ?_
                refine GT_call0 rfl rfl rfl rfl rfl rfl rfl rfl rn_32 (fun w hw => C_Number) (GR_cons rfl rfl rfl rfl (V_move rfl rfl) (GR_cons rfl rfl rfl rfl (V_index (k := 7) rfl rfl rfl Tryz.underlying75 sz_9 rfl (by show _ < (w9 row).length; omega) (hO4.isSome (k := 7) (by omega))) (GR_cons rfl rfl rfl rfl (V_load rfl rfl ag_9 (CellAt.own0 (k := 7) hO4 eB_len (by omega) (show _ = some (Value.string (stz (gw (w9 row) 7))) from rfl))) (GR_nil)))) ?_
                refine GT_call0 rfl rfl rfl rfl rfl rfl rfl rfl rn_32 (fun w hw => C_Number) (GR_nil) ?_
                refine GT_st rfl rfl rfl rfl (V_build (vs := [_, _, _, _, _, _, _]) rfl rfl zc_59 pl_59 sa_59 rfl) ?_
                refine GT_store (vs := [_, _, _, _, _, _, _]) (l' := [_, _, _, _, _, _, _]) rfl rfl rfl rfl rfl rfl rfl sz_59 rfl rfl (Nat.le_of_ble_eq_true rfl) rfl (GR_nil) ?_
                refine GT_nil ?_
                exact GE_to (hk b10 trivial) ⟨rfl, rfl, rfl, rfl, rfl, rfl, rfl, trivial⟩ (HS.cons rfl (HS.chunk (HS.chunk HS.last)))
            · skip
              refine GT_alloc rfl rfl rfl rfl rfl zc_59 (fun _ => GR_cons rfl rfl rfl rfl (V_move rfl rfl) (GR_cons rfl rfl rfl rfl (V_index (k := 2) rfl rfl rfl Tryz.underlying75 sz_9 rfl (by show _ < (w9 row).length; omega) (hO4.isSome (k := 2) (by omega))) (GR_cons rfl rfl rfl rfl (V_load rfl rfl ag_9 (CellAt.own0 (k := 2) hO4 eB_len (by omega) (show _ = some (Value.string (stz (gw (w9 row) 2))) from rfl))) (GR_cons rfl rfl rfl rfl (V_move rfl rfl) (GR_cons rfl rfl rfl rfl (V_index (k := 3) rfl rfl rfl Tryz.underlying75 sz_9 rfl (by show _ < (w9 row).length; omega) (hO4.isSome (k := 3) (by omega))) (GR_cons rfl rfl rfl rfl (V_load rfl rfl ag_9 (CellAt.own0 (k := 3) hO4 eB_len (by omega) (show _ = some (Value.string (stz (gw (w9 row) 3))) from rfl))) (GR_cons rfl rfl rfl rfl (V_move rfl rfl) (GR_cons rfl rfl rfl rfl (V_index (k := 4) rfl rfl rfl Tryz.underlying75 sz_9 rfl (by show _ < (w9 row).length; omega) (hO4.isSome (k := 4) (by omega))) (GR_cons rfl rfl rfl rfl (V_load rfl rfl ag_9 (CellAt.own0 (k := 4) hO4 eB_len (by omega) (show _ = some (Value.string (stz (gw (w9 row) 4))) from rfl))) (GR_cons rfl rfl rfl rfl (V_move rfl rfl) (GR_cons rfl rfl rfl rfl (V_index (k := 5) rfl rfl rfl Tryz.underlying75 sz_9 rfl (by show _ < (w9 row).length; omega) (hO4.isSome (k := 5) (by omega))) (GR_cons rfl rfl rfl rfl (V_load rfl rfl ag_9 (CellAt.own0 (k := 5) hO4 eB_len (by omega) (show _ = some (Value.string (stz (gw (w9 row) 5))) from rfl))) (GR_cons rfl rfl rfl rfl (V_move rfl rfl) (GR_cons rfl rfl rfl rfl (V_index (k := 6) rfl rfl rfl Tryz.underlying75 sz_9 rfl (by show _ < (w9 row).length; omega) (hO4.isSome (k := 6) (by omega))) (GR_cons rfl rfl rfl rfl (V_load rfl rfl ag_9 (CellAt.own0 (k := 6) hO4 eB_len (by omega) (show _ = some (Value.string (stz (gw (w9 row) 6))) from rfl))) (GR_cons rfl rfl rfl rfl (V_move rfl rfl) (GR_cons rfl rfl rfl rfl (V_index (k := 7) rfl rfl rfl Tryz.underlying75 sz_9 rfl (by show _ < (w9 row).length; omega) (hO4.isSome (k := 7) (by omega))) (GR_cons rfl rfl rfl rfl (V_load rfl rfl ag_9 (CellAt.own0 (k := 7) hO4 eB_len (by omega) (show _ = some (Value.string (stz (gw (w9 row) 7))) from rfl))) (GR_nil))))))))))))))))))) (fun b10 => ?_)
              refine GT_call0 rfl rfl rfl rfl rfl rfl rfl rfl rn_32 (fun w hw => C_Number) (GR_cons rfl rfl rfl rfl (V_move rfl rfl) (GR_cons rfl rfl rfl rfl (V_index (k := 3) rfl rfl rfl Tryz.underlying75 sz_9 rfl (by show _ < (w9 row).length; omega) (hO4.isSome (k := 3) (by omega))) (GR_cons rfl rfl rfl rfl (V_load rfl rfl ag_9 (CellAt.own0 (k := 3) hO4 eB_len (by omega) (show _ = some (Value.string (stz (gw (w9 row) 3))) from rfl))) (GR_cons rfl rfl rfl rfl (V_move rfl rfl) (GR_cons rfl rfl rfl rfl (V_index (k := 4) rfl rfl rfl Tryz.underlying75 sz_9 rfl (by show _ < (w9 row).length; omega) (hO4.isSome (k := 4) (by omega))) (GR_cons rfl rfl rfl rfl (V_load rfl rfl ag_9 (CellAt.own0 (k := 4) hO4 eB_len (by omega) (show _ = some (Value.string (stz (gw (w9 row) 4))) from rfl))) (GR_cons rfl rfl rfl rfl (V_move rfl rfl) (GR_cons rfl rfl rfl rfl (V_index (k := 5) rfl rfl rfl Tryz.underlying75 sz_9 rfl (by show _ < (w9 row).length; omega) (hO4.isSome (k := 5) (by omega))) (GR_cons rfl rfl rfl rfl (V_load rfl rfl ag_9 (CellAt.own0 (k := 5) hO4 eB_len (by omega) (show _ = some (Value.string (stz (gw (w9 row) 5))) from rfl))) (GR_cons rfl rfl rfl rfl (V_move rfl rfl) (GR_cons rfl rfl rfl rfl (V_index (k := 6) rfl rfl rfl Tryz.underlying75 sz_9 rfl (by show _ < (w9 row).length; omega) (hO4.isSome (k := 6) (by omega))) (GR_cons rfl rfl rfl rfl (V_load rfl rfl ag_9 (CellAt.own0 (k := 6) hO4 eB_len (by omega) (show _ = some (Value.string (stz (gw (w9 row) 6))) from rfl))) (GR_cons rfl rfl rfl rfl (V_move rfl rfl) (GR_cons rfl rfl rfl rfl (V_index (k := 7) rfl rfl rfl Tryz.underlying75 sz_9 rfl (by show _ < (w9 row).length; omega) (hO4.isSome (k := 7) (by omega))) (GR_cons rfl rfl rfl rfl (V_load rfl rfl ag_9 (CellAt.own0 (k := 7) hO4 eB_len (by omega) (show _ = some (Value.string (stz (gw (w9 row) 7))) from rfl))) (GR_nil)))))))))))))))) ?_
              refine GT_call0 rfl rfl rfl rfl rfl rfl rfl rfl rn_32 (fun w hw => C_Number) (GR_cons rfl rfl rfl rfl (V_move rfl rfl) (GR_cons rfl rfl rfl rfl (V_index (k := 4) rfl rfl rfl Tryz.underlying75 sz_9 rfl (by show _ < (w9 row).length; omega) (hO4.isSome (k := 4) (by omega))) (GR_cons rfl rfl rfl rfl (V_load rfl rfl ag_9 (CellAt.own0 (k := 4) hO4 eB_len (by omega) (show _ = some (Value.string (stz (gw (w9 row) 4))) from rfl))) (GR_cons rfl rfl rfl rfl (V_move rfl rfl) (GR_cons rfl rfl rfl rfl (V_index (k := 5) rfl rfl rfl Tryz.underlying75 sz_9 rfl (by show _ < (w9 row).length; omega) (hO4.isSome (k := 5) (by omega))) (GR_cons rfl rfl rfl rfl (V_load rfl rfl ag_9 (CellAt.own0 (k := 5) hO4 eB_len (by omega) (show _ = some (Value.string (stz (gw (w9 row) 5))) from rfl))) (GR_cons rfl rfl rfl rfl (V_move rfl rfl) (GR_cons rfl rfl rfl rfl (V_index (k := 6) rfl rfl rfl Tryz.underlying75 sz_9 rfl (by show _ < (w9 row).length; omega) (hO4.isSome (k := 6) (by omega))) (GR_cons rfl rfl rfl rfl (V_load rfl rfl ag_9 (CellAt.own0 (k := 6) hO4 eB_len (by omega) (show _ = some (Value.string (stz (gw (w9 row) 6))) from rfl))) (GR_cons rfl rfl rfl rfl (V_move rfl rfl) (GR_cons rfl rfl rfl rfl (V_index (k := 7) rfl rfl rfl Tryz.underlying75 sz_9 rfl (by show _ < (w9 row).length; omega) (hO4.isSome (k := 7) (by omega))) (GR_cons rfl rfl rfl rfl (V_load rfl rfl ag_9 (CellAt.own0 (k := 7) hO4 eB_len (by omega) (show _ = some (Value.string (stz (gw (w9 row) 7))) from rfl))) (GR_nil))))))))))))) ?_
              refine GT_call0 rfl rfl rfl rfl rfl rfl rfl rfl rn_32 (fun w hw => C_Number) (GR_cons rfl rfl rfl rfl (V_move rfl rfl) (GR_cons rfl rfl rfl rfl (V_index (k := 5) rfl rfl rfl Tryz.underlying75 sz_9 rfl (by show _ < (w9 row).length; omega) (hO4.isSome (k := 5) (by omega))) (GR_cons rfl rfl rfl rfl (V_load rfl rfl ag_9 (CellAt.own0 (k := 5) hO4 eB_len (by omega) (show _ = some (Value.string (stz (gw (w9 row) 5))) from rfl))) (GR_cons rfl rfl rfl rfl (V_move rfl rfl) (GR_cons rfl rfl rfl rfl (V_index (k := 6) rfl rfl rfl Tryz.underlying75 sz_9 rfl (by show _ < (w9 row).length; omega) (hO4.isSome (k := 6) (by omega))) (GR_cons rfl rfl rfl rfl (V_load rfl rfl ag_9 (CellAt.own0 (k := 6) hO4 eB_len (by omega) (show _ = some (Value.string (stz (gw (w9 row) 6))) from rfl))) (GR_cons rfl rfl rfl rfl (V_move rfl rfl) (GR_cons rfl rfl rfl rfl (V_index (k := 7) rfl rfl rfl Tryz.underlying75 sz_9 rfl (by show _ < (w9 row).length; omega) (hO4.isSome (k := 7) (by omega))) (GR_cons rfl rfl rfl rfl (V_load rfl rfl ag_9 (CellAt.own0 (k := 7) hO4 eB_len (by omega) (show _ = some (Value.string (stz (gw (w9 row) 7))) from rfl))) (GR_nil)))))))))) ?_
              refine GT_call0 rfl rfl rfl rfl rfl rfl rfl rfl rn_32 (fun w hw => C_Number) (GR_cons rfl rfl rfl rfl (V_move rfl rfl) (GR_cons rfl rfl rfl rfl (V_index (k := 6) rfl rfl rfl Tryz.underlying75 sz_9 rfl (by show _ < (w9 row).length; omega) (hO4.isSome (k := 6) (by omega))) (GR_cons rfl rfl rfl rfl (V_load rfl rfl ag_9 (CellAt.own0 (k := 6) hO4 eB_len (by omega) (show _ = some (Value.string (stz (gw (w9 row) 6))) from rfl))) (GR_cons rfl rfl rfl rfl (V_move rfl rfl) (GR_cons rfl rfl rfl rfl (V_index (k := 7) rfl rfl rfl Tryz.underlying75 sz_9 rfl (by show _ < (w9 row).length; omega) (hO4.isSome (k := 7) (by omega))) (GR_cons rfl rfl rfl rfl (V_load rfl rfl ag_9 (CellAt.own0 (k := 7) hO4 eB_len (by omega) (show _ = some (Value.string (stz (gw (w9 row) 7))) from rfl))) (GR_nil))))))) ?_
              refine GT_call0 rfl rfl rfl rfl rfl rfl rfl rfl rn_32 (fun w hw => C_Number) (GR_cons rfl rfl rfl rfl (V_move rfl rfl) (GR_cons rfl rfl rfl rfl (V_index (k := 7) rfl rfl rfl Tryz.underlying75 sz_9 rfl (by show _ < (w9 row).length; omega) (hO4.isSome (k := 7) (by omega))) (GR_cons rfl rfl rfl rfl (V_load rfl rfl ag_9 (CellAt.own0 (k := 7) hO4 eB_len (by omega) (show _ = some (Value.string (stz (gw (w9 row) 7))) from rfl))) (GR_nil)))) ?_
              refine GT_call0 rfl rfl rfl rfl rfl rfl rfl rfl rn_32 (fun w hw => C_Number) (GR_nil) ?_
              refine GT_st rfl rfl rfl rfl (V_build (vs := [_, _, _, _, _, _, _]) rfl rfl zc_59 pl_59 sa_59 rfl) ?_
              refine GT_store (vs := [_, _, _, _, _, _, _]) (l' := [_, _, _, _, _, _, _]) rfl rfl rfl rfl rfl rfl rfl sz_59 rfl rfl (Nat.le_of_ble_eq_true rfl) rfl (GR_nil) ?_
              refine GT_nil ?_
              exact GE_to (hk b10 trivial) ⟨rfl, rfl, rfl, rfl, rfl, rfl, rfl, trivial⟩ (HS.cons rfl (HS.chunk (HS.chunk HS.last)))
        · have hpp := p2_end (l := l) (show k + 1 = (rw9 s).length by omega)
          refine GE_exit rfl ?_
          refine GE_seq ?_
          refine GE_slots (L' := [(0, _), (1, _), (6, _)]) ⟨rfl, rfl, rfl, trivial⟩ ?_
          refine GE_plain (.st 0 (.st 1 (.ld 2 [] (.st 3 (.st 4 (.st 5 (.st 6 (.st 7 .nil)))))))) rfl ?_
          refine GT_st rfl rfl rfl rfl (V_move rfl rfl) ?_
          refine GT_st rfl rfl rfl rfl (V_move rfl rfl) ?_
          refine GT_call0 rfl rfl rfl rfl rfl rfl rfl rfl rn_8 (fun w hw => C_rText (h.sh hw) (hO.rdH ePrt_len hw)) (GR_nil) ?_
          refine GT_st rfl rfl rfl rfl (V_move rfl rfl) ?_
          refine GT_st rfl rfl rfl rfl (V_extract rfl rfl rfl) ?_
          refine GT_st rfl rfl rfl rfl (V_extract rfl rfl rfl) ?_
          refine GT_st rfl rfl rfl rfl (V_assign rfl rfl) ?_
          refine GT_st rfl rfl rfl rfl (V_assign rfl rfl) ?_
          refine GT_nil ?_
          refine GE_seq ?_
          refine GE_seq ?_
          refine GE_slots (L' := [(1, _), (6, _), (12, _), (13, _)]) ⟨rfl, rfl, rfl, rfl, trivial⟩ ?_
          refine GE_plain (.st 0 (.st 1 (.st 2 (.st 3 (.st 4 (.st 5 (.st 6 .nil))))))) rfl ?_
          refine GT_st rfl rfl rfl rfl (V_move rfl rfl) ?_
          refine GT_st rfl rfl rfl rfl (V_neq rfl rfl rfl) ?_
          refine GT_st rfl rfl rfl rfl (V_move rfl rfl) ?_
          first | refine GT_splitNot (d := 92) rfl (fun q7 => ?_) (fun q7 => ?_) | refine GT_split (d := 92) rfl (fun q7 => ?_) (fun q7 => ?_) | refine GT_splitNotB (d := 92) rfl (fun q7 => ?_) (fun q7 => ?_) | refine GT_splitB (d := 92) rfl (fun q7 => ?_) (fun q7 => ?_)
          · skip
            refine GT_skip rfl rfl rfl rfl rfl (by decide) rfl rfl ?_
            refine GT_skip rfl rfl rfl rfl rfl (by decide) rfl rfl ?_
            refine GT_skip rfl rfl rfl rfl rfl (by decide) rfl rfl ?_
            refine GT_st rfl rfl rfl rfl (V_pick_t rfl rfl rfl) ?_
            refine GT_nil ?_
            refine GE_cond_t rfl ?_
            refine GE_seq ?_
            refine GE_slots (L' := []) trivial ?_
            refine GE_plain (.st 0 (.st 1 .nil)) rfl ?_
            refine GT_st rfl rfl rfl rfl (V_assign rfl rfl) ?_
            refine GT_st rfl rfl rfl rfl (V_assign rfl rfl) ?_
            refine GT_nil ?_
            refine GE_ret Tryz.func10 ⟨_, _, rfl, rfl, rfl⟩ (fun w hw => ?_)
            have e : pa2 l s = ([], 8) := (by rw [eU, ← hpp]; refine if_neg ?_; rintro ⟨e1, e2⟩; first | exact q7 e1 | (refine q8 ?_; rw [txt, if_pos e1, e2])); exact ⟨(none, 0, []), by rw [e]; exact Own.nil, by rw [e] <;> rfl, hw.nil⟩
          · skip
            refine GT_st_g rfl rfl rfl rfl rfl rfl rfl (V_move rfl rfl) ?_
            refine GT_st_g rfl rfl rfl rfl rfl rfl rfl (V_move rfl rfl) ?_
            refine GT_st_g rfl rfl rfl rfl rfl rfl rfl (V_neqStr rfl rfl rfl) ?_
            refine GT_st rfl rfl rfl rfl (V_pick_f rfl rfl rfl) ?_
            refine GT_nil ?_
            first | refine GE_condNot rfl (fun q8 => ?_) (fun q8 => ?_) | refine GE_cond rfl (fun q8 => ?_) (fun q8 => ?_) | refine GE_condNotB rfl (fun q8 => ?_) (fun q8 => ?_) | refine GE_condB rfl (fun q8 => ?_) (fun q8 => ?_)
            · skip
              refine GE_seq ?_
              refine GE_slots (L' := []) trivial ?_
              refine GE_plain (.st 0 (.st 1 .nil)) rfl ?_
              refine GT_st rfl rfl rfl rfl (V_assign rfl rfl) ?_
              refine GT_st rfl rfl rfl rfl (V_assign rfl rfl) ?_
              refine GT_nil ?_
              refine GE_ret Tryz.func10 ⟨_, _, rfl, rfl, rfl⟩ (fun w hw => ?_)
              have e : pa2 l s = ([], 8) := (by rw [eU, ← hpp]; refine if_neg ?_; rintro ⟨e1, e2⟩; first | exact q7 e1 | (refine q8 ?_; rw [txt, if_pos e1, e2])); exact ⟨(none, 0, []), by rw [e]; exact Own.nil, by rw [e] <;> rfl, hw.nil⟩
            · skip
              refine GE_skip ?_
              refine GE_seq ?_
              refine GE_slots (L' := [(6, _)]) ⟨rfl, trivial⟩ ?_
              refine GE_plain (.st 0 (.st 1 (.st 2 .nil))) rfl ?_
              refine GT_st rfl rfl rfl rfl (V_move rfl rfl) ?_
              refine GT_st rfl rfl rfl rfl (V_assign rfl rfl) ?_
              refine GT_st rfl rfl rfl rfl (V_assign rfl rfl) ?_
              refine GT_nil ?_
              refine GE_ret Tryz.func10 ⟨_, _, rfl, rfl, rfl⟩ (fun w hw => ?_)
              have e : pa2 l s = (((rw9 s).take k).map (pr2 l), 0) := (by rw [eU, ← hpp]; refine if_pos ⟨q7, ?_⟩; have q9 := stz_inj.1 q8; rw [txt, if_pos q7] at q9; exact q9); exact ⟨z, by rw [e]; exact hO, by rw [e] <;> rfl, hw.hs (C := cx Tryz.prog hm 0 0 _ none' fun _ _ => True) HS.last⟩
      · exact ⟨by dsimp only; omega, Own.nil⟩
end
end Go.Proofs.YtdcjgjopmicidaaGreatDoor
/- strings.Lines, walked; the numbers of takes in a map. -/
namespace Go.Proofs.YtdcjgjopmicidaaGreatDoor
open Go.Sx Go.Proofs Go.RowKit

/-! ### lines -/
theorem in10_split {r : List UInt8} (h : (10 : UInt8) ∈ r) : ∃ a t, r = a ++ 10 :: t ∧ (10 : UInt8) ∉ a := List.eq_append_cons_of_mem h
theorem indexByte_hit : ∀ {a t : List UInt8}, (10 : UInt8) ∉ a → Go.Lib.indexByte (a ++ 10 :: t) 10 = a.length
  | [], t, _ => by rw [List.nil_append, Go.Lib.indexByte, if_pos (by decide)]; rfl
  | x :: a, t, h => by
    have h1 : ¬ (x == 10) = true := by rw [beq_iff_eq]; intro e; exact h (e ▸ List.mem_cons_self)
    have h2 := indexByte_hit (a := a) (t := t) fun m => h (List.mem_cons_of_mem _ m)
    rw [List.cons_append, Go.Lib.indexByte, if_neg h1, h2, if_neg (by rw [beq_iff_eq]; omega), List.length_cons]; omega
theorem indexByte_miss : ∀ {a : List UInt8}, (10 : UInt8) ∉ a → Go.Lib.indexByte a 10 = -1
  | [], _ => rfl
  | x :: a, h => by
    have h1 : ¬ (x == 10) = true := by rw [beq_iff_eq]; intro e; exact h (e ▸ List.mem_cons_self)
    have h2 := indexByte_miss (a := a) fun m => h (List.mem_cons_of_mem _ m)
    rw [Go.Lib.indexByte, if_neg h1, h2]; rfl
/-- a line, with what ends it -/
def lnE (r : List UInt8) : List UInt8 := r.take ((ln r).length + 1)
theorem ix_yes {r : List UInt8} (h : 0 ≤ Go.Lib.indexByte r 10) : Go.Lib.indexByte r 10 = (ln r).length ∧ (ln r).length + 1 ≤ r.length := by
  by_cases hm : (10 : UInt8) ∈ r
  · obtain ⟨a, t, rfl, ha⟩ := in10_split hm
    rw [indexByte_hit ha, (ln_hit ha).1, List.length_append, List.length_cons]; omega
  · rw [indexByte_miss hm] at h; omega
theorem ix_no {r : List UInt8} (h : ¬ 0 ≤ Go.Lib.indexByte r 10) : lnE r = r ∧ aft r = [] := by
  by_cases hm : (10 : UInt8) ∈ r
  · obtain ⟨a, t, rfl, ha⟩ := in10_split hm
    rw [indexByte_hit ha] at h; omega
  · obtain ⟨e1, e2⟩ := ln_miss hm
    refine ⟨?_, e2⟩
    unfold lnE; rw [e1]; exact List.take_of_length_le (by omega)
theorem trim_lnE (r : List UInt8) : Go.Lib.trimSuffix (lnE r) [10] = ln r := by
  by_cases hm : (10 : UInt8) ∈ r
  · obtain ⟨a, t, rfl, ha⟩ := in10_split hm
    have e := (ln_hit (r := t) ha).1
    have e2 : lnE (a ++ 10 :: t) = a ++ [10] := by
      unfold lnE; rw [e, show a ++ 10 :: t = (a ++ [10]) ++ t by rw [List.append_assoc]; rfl]
      exact List.take_left' (by simp)
    have hs : Go.Lib.hasSuffix (a ++ [10]) [10] = true := by unfold Go.Lib.hasSuffix; rw [List.isSuffixOf_iff_suffix]; exact List.suffix_append _ _
    rw [e2, e]
    unfold Go.Lib.trimSuffix
    rw [if_pos hs]
    exact List.take_left' (by simp)
  · obtain ⟨e1, _⟩ := ln_miss hm
    have e2 : lnE r = r := by unfold lnE; rw [e1]; exact List.take_of_length_le (by omega)
    have hs : ¬ Go.Lib.hasSuffix r [10] = true := by
      unfold Go.Lib.hasSuffix; rw [List.isSuffixOf_iff_suffix]
      intro q; exact hm (q.subset (List.mem_singleton.2 rfl))
    rw [e2, e1]
    unfold Go.Lib.trimSuffix
    rw [if_neg hs]
theorem lnE_len (r : List UInt8) : (lnE r).length ≤ r.length := by unfold lnE; rw [List.length_take]; omega
theorem ln_len (r : List UInt8) : (ln r).length ≤ r.length := by
  refine pcs_mem_le 10 r _ ?_
  unfold ln
  cases h : pcs 10 r with
  | nil => exact absurd h (pcs_ne 10 r)
  | cons y t => exact List.mem_cons_self

section
variable {w : World} {s : List UInt8}
theorem C_Lines : Con Tryz.prog 26 [.string (stz s)] w (fun _ : Nat => True) (fun b => .func (.func 51) #[] #[ptr b 0]) (fun b => [(b, blk [.string (stz s)] 9)]) := by
  refine Ret_of (vs := [_]) hm none' Tryz.func26 rfl Tryz.ntmps26 rfl ?_
  dsimp only [slotsOf]
  refine GE_seq ?_
  refine GE_plain (.ld 0 [] (.st 1 .nil)) rfl ?_
  refine GT_box (z := [_]) rfl rfl rfl rfl rfl rfl rfl (fun _ => GR_nil) (fun b1 => ?_)
  refine GT_st rfl rfl rfl rfl (V_assign rfl rfl) ?_
  refine GT_nil ?_
  refine GE_seq ?_
  refine GE_plain (.st 0 (.st 1 .nil)) rfl ?_
  refine GT_st rfl rfl rfl rfl (V_makeFunc rfl rfl rfl) ?_
  refine GT_st rfl rfl rfl rfl (V_assign rfl rfl) ?_
  refine GT_nil ?_
  refine GE_ret Tryz.func26 rfl (fun w hw => ?_)
  exact ⟨_, trivial, rfl, hw.hs (C := cx Tryz.prog hm 0 0 _ none' fun _ _ => True) (HS.cons rfl HS.nil)⟩
set_option maxRecDepth 10000 in
theorem C_Lines1 {b1 lp : Nat} {w0 : World} {G J : Items} {Q : List UInt8 → Items → Prop} {Qx : Items → Prop} (hs : s.length ≤ 1000000)
    (hY : ∀ r J, r ≠ [] → Q r J → ∀ G, YieldTo Tryz.prog w0 none' lp [.string (stz (lnE r))] (J ++ G) fun v H' => ∃ J', H' = J' ++ G ∧ (v = .bool true ∧ Q (aft r) J' ∨ v = .bool false ∧ Qx J'))
    (hQ : Q s J) (m : SH w0 none' (J ++ ((b1, blk [.string (stz s)] 9) :: G)) w) :
    Ret Tryz.prog 51 [.func (.yield lp) #[] #[], ptr b1 0].toArray w fun v w' => ∃ J', (Q [] J' ∨ Qx J') ∧ SH w0 none' (J' ++ G) w' := by
  refine Ret_ofH (vs := [_, _]) hm none' Tryz.func51 rfl Tryz.ntmps51 rfl m ?_
  dsimp only [slotsOf]
  refine GE_block ?_
  refine GE_to (GE_loop (ι := List UInt8 × Items) (fun z => z.1.length) (fun z => [(0, .func (.yield lp) #[] #[]), (1, ptr b1 0)]) (fun z => z.2 ++ ((b1, blk [.string (stz z.1)] 9) :: G)) (fun z => z.1.length ≤ s.length ∧ Q z.1 z.2) ?_ (s, J) ?_) ⟨rfl, rfl, trivial⟩ (HS.chunk (HS.cons rfl HS.last))
  · rintro ⟨r, J1⟩ ⟨hr, hQ1⟩ ih; dsimp only at hr hQ1 ih ⊢; have hrz := stz_size r
    refine GE_seq ?_
    refine GE_seq ?_
    refine GE_plain (.st 0 (.st 1 (.st 2 .nil))) rfl ?_
    refine GT_st rfl rfl rfl rfl (V_load rfl rfl ag_9 (CellAt.item rfl)) ?_
    refine GT_st rfl rfl rfl rfl (V_len_str rfl Tryz.underlying9 rfl) ?_
    refine GT_st rfl rfl rfl rfl (V_gtr rfl rfl rfl) ?_
    refine GT_nil ?_
    first | refine GE_condNot rfl (fun q1 => ?_) (fun q1 => ?_) | refine GE_cond rfl (fun q1 => ?_) (fun q1 => ?_) | refine GE_condNotB rfl (fun q1 => ?_) (fun q1 => ?_) | refine GE_condB rfl (fun q1 => ?_) (fun q1 => ?_)
    · have hrn : r ≠ [] := (by intro q; have e0 : r.length = 0 := congrArg List.length q; omega)
      refine GE_skip ?_
      refine GE_block ?_
      refine GE_seq ?_
      refine GE_plain (.st 0 .nil) rfl ?_
      refine GT_st rfl rfl rfl rfl (V_assign rfl rfl) ?_
      refine GT_nil ?_
      refine GE_cut (ι := Unit) (fun _ => [(0, .func (.yield lp) #[] #[]), (1, ptr b1 0), (3, .string (stz (lnE r)))]) (fun _ => J1 ++ ((b1, blk [.string (stz (aft r))] 9) :: G)) (fun _ => True) ?_ (fun hk => ?_)
      · intro _ _
        refine GE_seq ?_
        refine GE_plain (.st 0 (.st 1 (.ld 2 [] (.st 3 .nil)))) rfl ?_
        refine GT_st rfl rfl rfl rfl (V_move rfl rfl) ?_
        refine GT_st rfl rfl rfl rfl (V_move rfl rfl) ?_
        refine GT_yield rfl rfl rfl rfl rfl rfl rfl (YieldTo.chunk (hY r J1 hrn hQ1 _)) (fun _ _ _ => GR_nil) (fun v H' hR => ?_)
        rcases hR with ⟨J2, rfl, ⟨rfl, hQ2⟩ | ⟨rfl, hX⟩⟩
        · skip
          first | refine GT_st rfl rfl rfl rfl (V_not rfl rfl) ?_ | refine GT_st rfl rfl rfl rfl (V_notB rfl rfl) ?_
          refine GT_nil ?_
          refine GE_cond_f rfl ?_
          refine GE_skip ?_
          refine GE_inBlock ?_
          exact GE_to (ih (aft r, J2) ⟨by have := aft_lt hrn; dsimp only; omega, hQ2⟩ (aft_lt hrn)) ⟨rfl, rfl, trivial⟩ (HS.chunk (HS.cons rfl HS.last))
        · skip
          first | refine GT_st rfl rfl rfl rfl (V_not rfl rfl) ?_ | refine GT_st rfl rfl rfl rfl (V_notB rfl rfl) ?_
          refine GT_nil ?_
          refine GE_cond_t rfl ?_
          refine GE_ret Tryz.func51 rfl (fun w hw => ?_)
          first | exact ⟨J2, .inr hX, hw.hs (C := cx Tryz.prog hm 0 0 w0 none' fun _ _ => True) (HS.chunk HS.last)⟩ | (rw [hrn] at hQ1; exact ⟨J1, .inl hQ1, hw.hs (C := cx Tryz.prog hm 0 0 w0 none' fun _ _ => True) (HS.chunk HS.last)⟩)
      · skip
        refine GE_seq ?_
        refine GE_slots (L' := [(0, _), (1, _)]) ⟨rfl, rfl, trivial⟩ ?_
        refine GE_plain (.st 0 (.ld 1 [] (.st 2 .nil))) rfl ?_
        refine GT_st rfl rfl rfl rfl (V_load rfl rfl ag_9 (CellAt.item rfl)) ?_
        refine GT_call0 rfl rfl rfl rfl rfl rfl rfl rfl rn_52 (fun w hw => C_IndexByte) (GR_nil) ?_
        refine GT_st rfl rfl rfl rfl (V_assign rfl rfl) ?_
        refine GT_nil ?_
        refine GE_seq ?_
        refine GE_plain (.st 0 (.st 1 .nil)) rfl ?_
        refine GT_st rfl rfl rfl rfl (V_move rfl rfl) ?_
        refine GT_st rfl rfl rfl rfl (V_geq rfl rfl rfl) ?_
        refine GT_nil ?_
        first | refine GE_cond rfl (fun q2 => ?_) (fun q2 => ?_)
        · have hix := ix_yes q2
          refine GE_slots (L' := [(0, _), (1, _), (4, _)]) ⟨rfl, rfl, rfl, trivial⟩ ?_
          refine GE_drawn (.st 0 (.st 1 (.st 2 (.st 3 (.st 4 (.st 5 (.st 6 (.st 7 (.st 8 (.ld 9 [] .nil)))))))))) [9] (by decide +kernel) ?_
          refine GT_st rfl rfl rfl rfl (V_load rfl rfl ag_9 (CellAt.item rfl)) ?_
          refine GT_st rfl rfl rfl rfl (V_move rfl rfl) ?_
          refine GT_st rfl rfl rfl rfl (V_add rfl rfl rfl (wrap_i64 (by omega))) ?_
          refine GT_st rfl rfl rfl rfl (V_sliceStrTo (hi := (ln r).length + 1) rfl rfl rfl Tryz.underlying9 (by omega) (by omega)) ?_
          refine GT_st rfl rfl rfl rfl (V_load rfl rfl ag_9 (CellAt.item rfl)) ?_
          refine GT_st rfl rfl rfl rfl (V_move rfl rfl) ?_
          refine GT_st rfl rfl rfl rfl (V_add rfl rfl rfl (wrap_i64 (by omega))) ?_
          refine GT_st rfl rfl rfl rfl (V_sliceStrFrom (lo := (ln r).length + 1) rfl rfl rfl Tryz.underlying9 (by omega) (by omega)) ?_
          refine GT_st rfl rfl rfl rfl (V_assign rfl rfl) ?_
          refine GT_store (vs := [_]) rfl rfl rfl rfl rfl rfl rfl sz_9 rfl rfl (Nat.le_of_ble_eq_true rfl) rfl (GR_nil) ?_
          refine GT_nil ?_
          first | exact GE_to (hk () trivial) ⟨rfl, rfl, rfl, trivial⟩ (HS.chunk (HS.cons rfl HS.last)) | exact GE_to (hk () trivial) ⟨rfl, rfl, lookT rfl (by rw [hix.1]), trivial⟩ (HS.chunk (HS.cons (by rw [hix.2]; rfl) HS.last))
        · have hix := ix_no q2
          refine GE_slots (L' := [(0, _), (1, _)]) ⟨rfl, rfl, trivial⟩ ?_
          refine GE_plain (.st 0 (.st 1 (.ld 2 [] .nil))) rfl ?_
          refine GT_st rfl rfl rfl rfl (V_load rfl rfl ag_9 (CellAt.item rfl)) ?_
          refine GT_st rfl rfl rfl rfl (V_assign rfl rfl) ?_
          refine GT_store (vs := [_]) rfl rfl rfl rfl rfl rfl rfl sz_9 rfl rfl (Nat.le_of_ble_eq_true rfl) rfl (GR_nil) ?_
          refine GT_nil ?_
          first | exact GE_to (hk () trivial) ⟨rfl, rfl, rfl, trivial⟩ (HS.chunk (HS.cons rfl HS.last)) | exact GE_to (hk () trivial) ⟨rfl, rfl, lookT rfl (by rw [hix.1]), trivial⟩ (HS.chunk (HS.cons (by rw [hix.2]; rfl) HS.last))
    · have hrn : r = [] := List.length_eq_zero_iff.1 (by omega)
      refine GE_exit rfl ?_
      refine GE_end Tryz.func51 rfl (fun w hw => ?_)
      first | exact ⟨J2, .inr hX, hw.hs (C := cx Tryz.prog hm 0 0 w0 none' fun _ _ => True) (HS.chunk HS.last)⟩ | (rw [hrn] at hQ1; exact ⟨J1, .inl hQ1, hw.hs (C := cx Tryz.prog hm 0 0 w0 none' fun _ _ => True) (HS.chunk HS.last)⟩)
  · exact ⟨Nat.le_refl _, hQ⟩
end

/-! ### the map from names to numbers of takes -/
def mhas (ks : List KV) (k : ByteArray) : Bool := (midx ks k).isSome
theorem mhas_cons (x : KV) (ks : List KV) (k : ByteArray) : mhas (x :: ks) k = (decide (x.1 = k) || mhas ks k) := by
  unfold mhas; rw [midx_cons]
  by_cases h : x.1 = k
  · simp [h]
  · simp [h]
theorem mget_cons (x : KV) (ks : List KV) (k : ByteArray) : mget (x :: ks) k = if x.1 = k then x.2 else mget ks k := by
  unfold mget; rw [midx_cons]
  by_cases h : x.1 = k
  · simp [h, List.getD]
  · simp only [h, if_false]
    cases midx ks k with
    | none => rfl
    | some i => simp [List.getD]
theorem mput_cons (x : KV) (ks : List KV) (k : ByteArray) (z : Int) : mput (x :: ks) k z = if x.1 = k then (k, z) :: ks else x :: mput ks k z := by
  unfold mput; rw [midx_cons]
  by_cases h : x.1 = k
  · simp [h]
  · simp only [h, if_false]
    cases midx ks k with
    | none => rfl
    | some i => rfl
theorem mhas_mput (k : ByteArray) (z : Int) (nm : ByteArray) : ∀ ks : List KV, mhas (mput ks k z) nm = (decide (k = nm) || mhas ks nm)
  | [] => by rw [show mput [] k z = [(k, z)] from rfl, mhas_cons]
  | x :: ks => by
    have ih := mhas_mput k z nm ks
    rw [mput_cons]
    by_cases h : x.1 = k
    · rw [if_pos h, mhas_cons, mhas_cons, h]
      by_cases h2 : k = nm <;> simp [h2]
    · rw [if_neg h, mhas_cons, mhas_cons, ih]
      by_cases h2 : k = nm <;> by_cases h3 : x.1 = nm <;> simp [h2, h3]
theorem mget_mput (k : ByteArray) (z : Int) (nm : ByteArray) : ∀ ks : List KV, mget (mput ks k z) nm = if k = nm then z else mget ks nm
  | [] => by rw [show mput [] k z = [(k, z)] from rfl, mget_cons]
  | x :: ks => by
    have ih := mget_mput k z nm ks
    rw [mput_cons]
    by_cases h : x.1 = k
    · rw [if_pos h, mget_cons, mget_cons, h]
      by_cases h2 : k = nm <;> simp [h2]
    · rw [if_neg h, mget_cons, mget_cons, ih]
      by_cases h2 : k = nm
      · by_cases h3 : x.1 = nm
        · exact absurd (h3.trans h2.symm) h
        · simp [h2, h3]
      · simp [h2]
def mapOk (l : List Tk) (k : Nat) (ks : List KV) : Prop := ∀ nm, mhas ks nm = decide (0 ≤ lastIx l nm k) ∧ (0 ≤ lastIx l nm k → mget ks nm = lastIx l nm k)
theorem mapOk_0 (l : List Tk) : mapOk l 0 [] := fun nm => ⟨rfl, fun h => by rw [lastIx] at h; omega⟩
theorem mapOk_succ {l : List Tk} {k : Nat} {ks : List KV} (h : mapOk l k ks) : mapOk l (k + 1) (mput ks (l.getD k default).name k) := fun nm => by
  obtain ⟨h1, h2⟩ := h nm
  rw [mhas_mput, mget_mput, lastIx]
  by_cases e : (l.getD k default).name = nm
  · rw [if_pos e, if_pos e, decide_eq_true e]
    refine ⟨?_, fun _ => rfl⟩
    rw [decide_eq_true (by omega)]; rfl
  · rw [if_neg e, if_neg e, decide_eq_false e, h1]
    exact ⟨rfl, h2⟩
theorem mapOk_has {l : List Tk} {ks : List KV} (h : mapOk l l.length ks) (nm : ByteArray) : (midx ks nm).isSome = decide (0 ≤ ix l nm) := (h nm).1
theorem mapOk_get {l : List Tk} {ks : List KV} (h : mapOk l l.length ks) {nm : ByteArray} (h0 : 0 ≤ ix l nm) : mget ks nm = ix l nm := (h nm).2 h0
end Go.Proofs.YtdcjgjopmicidaaGreatDoor
/- The program's Parse, walked. -/
namespace Go.Proofs.YtdcjgjopmicidaaGreatDoor
open Go.Sx Go.Proofs Go.RowKit

/-! ### the numbers of a row, one after another -/
def sel (W : List (List UInt8)) (i j : Nat) : Int := if j < i then at1 W j else 0
def nv (W : List (List UInt8)) (i : Nat) : List Value := [I 0, I 0, I (sel W i 2), I (sel W i 3), I (sel W i 4), I (sel W i 5), I (sel W i 6), I (sel W i 7)]
theorem nv_succ (W : List (List UInt8)) {i : Nat} (h : 2 ≤ i ∧ i < 8) : setsAt (nv W i) (0 + i * 1) [I (at1 W i)] = nv W (i + 1) := by
  rcases (show i = 2 ∨ i = 3 ∨ i = 4 ∨ i = 5 ∨ i = 6 ∨ i = 7 by omega) with rfl | rfl | rfl | rfl | rfl | rfl <;> simp [nv, sel, setsAt]
theorem nv_len (W : List (List UInt8)) (i : Nat) : (nv W i).length = 8 := rfl
theorem gw_get {W : List (List UInt8)} {i : Nat} (h : i < W.length) : (eB (W.getD i default))[0]? = some (Value.string (stz (gw W i))) := rfl
theorem ps1_len {l : List Tk} {r : List UInt8} (hr : r ≠ []) {p : List Prt} (h : (pcs 32 (ln r)).length ≠ 8 ∨ p.length = 32 ∨ ix l (stz (gw (pcs 32 (ln r)) 1)) < 0) : ps1 l (rws r) p = none := by
  rw [rws_cons hr, ps1]
  by_cases h1 : p.length = 32
  · rw [if_pos h1]
  · rw [if_neg h1]
    have e : pr1 l (ln r) = none := by
      unfold pr1
      rcases h with h | h | h
      · rw [if_pos h]
      · exact absurd h h1
      · split
        · rfl
        · first | rfl | rw [if_pos h]
    rw [e]
theorem ps1_next {l : List Tk} {r : List UInt8} (hr : r ≠ []) {p : List Prt} (h1 : (pcs 32 (ln r)).length = 8) (h2 : ¬ p.length = 32) (h3 : 0 ≤ ix l (stz (gw (pcs 32 (ln r)) 1))) : ps1 l (rws r) p = ps1 l (rws (aft r)) (p ++ [mk1 l (pcs 32 (ln r))]) := by
  rw [rws_cons hr, ps1, if_neg h2]
  have e : pr1 l (ln r) = some (mk1 l (pcs 32 (ln r))) := by
    unfold pr1
    rw [if_neg (fun q => q h1), if_neg (by omega)]
  rw [e]
section
variable {w : World} {A : Option Addr} {c : Nat} {l : List Tk} {s : List UInt8}
set_option maxRecDepth 20000 in
set_option maxHeartbeats 4000000 in
theorem C_Parse (E : Env w) (h : Tks w A l) (hs : s.length ≤ 70000) : Con Tryz.prog 9 [.slice A l.length c, .string (stz s)] w (fun y : Option Addr × Nat × Items => Own 7 59 ePrt (pa1 l s).1 (.slice y.1 (pa1 l s).1.length y.2.1) y.2.2)
    (fun y => .tuple #[.slice y.1 (pa1 l s).1.length y.2.1, I (pa1 l s).2]) (fun y => y.2.2) := by
  have hsz := stz_size s
  refine Ret_of (vs := [_, _]) hm none' Tryz.func9 rfl Tryz.ntmps9 rfl ?_
  dsimp only [slotsOf]
  refine GE_seq ?_
  refine GE_plain (.ld 0 [] (.ld 1 [] .nil)) rfl ?_
  refine GT_alloc rfl rfl rfl rfl rfl zc_23 (fun _ => GR_nil) (fun b4 => ?_)
  refine GT_alloc rfl rfl rfl rfl rfl zc_26 (fun _ => GR_nil) (fun b5 => ?_)
  refine GT_nil ?_
  refine GE_seq ?_
  refine GE_seq ?_
  refine GE_plain (.st 0 (.ld 1 [] (.st 2 .nil))) rfl ?_
  refine GT_st rfl rfl rfl rfl (V_move rfl rfl) ?_
  refine GT_call0 rfl rfl rfl rfl rfl rfl rfl rfl rn_25 (fun w hw => C_CheckTakes (h.sh hw)) (GR_nil) ?_
  refine GT_st rfl rfl rfl rfl (V_assign rfl rfl) ?_
  refine GT_nil ?_
  refine GE_seq ?_
  refine GE_plain (.st 0 (.st 1 .nil)) rfl ?_
  refine GT_st rfl rfl rfl rfl (V_move rfl rfl) ?_
  refine GT_st rfl rfl rfl rfl (V_neq rfl rfl rfl) ?_
  refine GT_nil ?_
  first | refine GE_condNot rfl (fun q1 => ?_) (fun q1 => ?_) | refine GE_cond rfl (fun q1 => ?_) (fun q1 => ?_) | refine GE_condNotB rfl (fun q1 => ?_) (fun q1 => ?_) | refine GE_condB rfl (fun q1 => ?_) (fun q1 => ?_)
  · skip
    refine GE_seq ?_
    refine GE_slots (L' := [(4, _), (5, _), (6, _)]) ⟨rfl, rfl, rfl, trivial⟩ ?_
    refine GE_plain (.st 0 (.ld 1 [] (.ld 2 [] .nil))) rfl ?_
    refine GT_st rfl rfl rfl rfl (V_move rfl rfl) ?_
    refine GT_store (vs := [_]) (l' := [_]) rfl rfl rfl rfl rfl rfl rfl sz_23 rfl rfl (Nat.le_of_ble_eq_true rfl) rfl (GR_nil) ?_
    refine GT_store (vs := [_]) (l' := [_]) rfl rfl rfl rfl rfl rfl rfl sz_26 rfl rfl (Nat.le_of_ble_eq_true rfl) rfl (GR_nil) ?_
    refine GT_nil ?_
    refine GE_ret Tryz.func9 ⟨_, _, ⟨_, rfl, fun w m => run_loadVar_one ag_23 (CellAt.item rfl w m)⟩, ⟨_, rfl, fun w m => run_loadVar_one ag_26 (CellAt.item rfl w m)⟩, rfl⟩ (fun w hw => ?_)
    have e : pa1 l s = ([], lErr l) := if_neg q1; exact ⟨(none, 0, []), by rw [e]; exact Own.nil, by rw [e] <;> rfl, hw.nil⟩
  · have h0 : lErr l = 0 := (by omega)
    refine GE_skip ?_
    refine GE_seq ?_
    refine GE_seq ?_
    refine GE_slots (L' := [(0, _), (1, _), (4, _), (5, _)]) ⟨rfl, rfl, rfl, rfl, trivial⟩ ?_
    refine GE_plain (.st 0 (.st 1 (.st 2 .nil))) rfl ?_
    refine GT_st rfl rfl rfl rfl (V_move rfl rfl) ?_
    refine GT_st rfl rfl rfl rfl (V_len_str rfl Tryz.underlying9 rfl) ?_
    refine GT_st rfl rfl rfl rfl (V_gtr rfl rfl rfl) ?_
    refine GT_nil ?_
    first | refine GE_condNot rfl (fun q2 => ?_) (fun q2 => ?_) | refine GE_cond rfl (fun q2 => ?_) (fun q2 => ?_) | refine GE_condNotB rfl (fun q2 => ?_) (fun q2 => ?_) | refine GE_condB rfl (fun q2 => ?_) (fun q2 => ?_)
    · skip
      refine GE_seq ?_
      refine GE_slots (L' := [(4, _), (5, _)]) ⟨rfl, rfl, trivial⟩ ?_
      refine GE_plain (.ld 0 [] (.ld 1 [] .nil)) rfl ?_
      refine GT_store (vs := [_]) (l' := [_]) rfl rfl rfl rfl rfl rfl rfl sz_23 rfl rfl (Nat.le_of_ble_eq_true rfl) rfl (GR_nil) ?_
      refine GT_store (vs := [_]) (l' := [_]) rfl rfl rfl rfl rfl rfl rfl sz_26 rfl rfl (Nat.le_of_ble_eq_true rfl) rfl (GR_nil) ?_
      refine GT_nil ?_
      refine GE_ret Tryz.func9 ⟨_, _, ⟨_, rfl, fun w m => run_loadVar_one ag_23 (CellAt.item rfl w m)⟩, ⟨_, rfl, fun w m => run_loadVar_one ag_26 (CellAt.item rfl w m)⟩, rfl⟩ (fun w hw => ?_)
      have e : pa1 l s = ([], 7) := (by rw [pa1, if_pos h0, if_pos (by omega)]); exact ⟨(none, 0, []), by rw [e]; exact Own.nil, by rw [e] <;> rfl, hw.nil⟩
    · have eU : pa1 l s = (match ps1 l (rws s) [] with | none => ([], 8) | some p => unT l s p) := (by rw [pa1, if_pos h0, if_neg (by omega)] <;> rfl); have hl16 := (lErr_zero.1 h0).most
      refine GE_skip ?_
      refine GE_seq ?_
      refine GE_plain (.ld 0 [] (.ld 1 [] (.ld 2 [] .nil))) rfl ?_
      refine GT_makeMap rfl rfl rfl rfl rfl (fun _ => GR_nil) (fun b27 => ?_)
      refine GT_alloc rfl rfl rfl rfl rfl zc_71 (fun _ => GR_nil) (fun b7 => ?_)
      refine GT_store (vs := [_]) (l' := [_]) rfl rfl rfl rfl rfl rfl rfl sz_71 rfl rfl (Nat.le_of_ble_eq_true rfl) rfl (GR_nil) ?_
      refine GT_nil ?_
      refine GE_seq ?_
      refine GE_seq ?_
      refine GE_slots (L' := [(0, _), (1, _), (4, _), (5, _), (7, _)]) ⟨rfl, rfl, rfl, rfl, rfl, trivial⟩ ?_
      refine GE_plain (.st 0 (.st 1 (.st 2 .nil))) rfl ?_
      refine GT_st rfl rfl rfl rfl (V_move rfl rfl) ?_
      refine GT_st rfl rfl rfl rfl (V_len rfl Tryz.underlying22 rfl) ?_
      refine GT_st rfl rfl rfl rfl (V_move rfl rfl) ?_
      refine GT_nil ?_
      refine GE_block ?_
      refine GE_to (GE_loop (ι := Nat × List KV) (fun z => l.length - z.1) (fun z => [(0, .slice A l.length c), (1, .string (stz s)), (4, ptr b4 0), (5, ptr b5 0), (7, ptr b7 0), (28, .slice A l.length c), (29, I l.length), (30, I z.1)]) (fun z => [(b27, mobj z.2), (b7, blk [.map (some b27)] 71), (b4, blk [.slice none 0 0] 23), (b5, blk [I 0] 26)]) (fun z => z.1 ≤ l.length ∧ mapOk l z.1 z.2) ?_ (0, []) ?_) ⟨rfl, rfl, rfl, rfl, rfl, rfl, rfl, rfl, trivial⟩ (HS.cons rfl (HS.cons rfl (HS.cons rfl (HS.cons rfl HS.nil))))
      · rintro ⟨k, ks⟩ ⟨hk, hm1⟩ ih; dsimp only at hk hm1 ih ⊢
        refine GE_seq ?_
        refine GE_plain (.st 0 .nil) rfl ?_
        refine GT_st rfl rfl rfl rfl (V_lss rfl rfl rfl) ?_
        refine GT_nil ?_
        refine GE_seq ?_
        first | refine GE_condNot rfl (fun q3 => ?_) (fun q3 => ?_) | refine GE_cond rfl (fun q3 => ?_) (fun q3 => ?_) | refine GE_condNotB rfl (fun q3 => ?_) (fun q3 => ?_) | refine GE_condB rfl (fun q3 => ?_) (fun q3 => ?_)
        · have hkl : k < l.length := (by omega)
          refine GE_skip ?_
          refine GE_seq ?_
          refine GE_block ?_
          refine GE_seq ?_
          refine GE_plain (.st 0 (.st 1 (.st 2 (.ld 3 [] (.st 4 (.ld 5 [] .nil)))))) rfl ?_
          refine GT_st rfl rfl rfl rfl (V_move rfl rfl) ?_
          refine GT_st rfl rfl rfl rfl (V_index rfl rfl rfl Tryz.underlying22 sz_39 (k := k) rfl hkl (h.1.isSome hkl)) ?_
          refine GT_st rfl rfl rfl rfl (V_loadN (vs := [_, _]) rfl rfl ag_39 sz_39 rfl (h.1.ats noM hkl)) ?_
          refine GT_alloc rfl rfl rfl rfl rfl zc_39 (fun _ => GR_nil) (fun b9 => ?_)
          refine GT_st rfl rfl rfl rfl (V_assign rfl rfl) ?_
          refine GT_store (vs := [_, _]) (l' := [_, _]) rfl rfl rfl rfl rfl rfl rfl sz_39 rfl rfl (Nat.le_of_ble_eq_true rfl) rfl (GR_nil) ?_
          refine GT_nil ?_
          refine GE_slots (L' := [(0, _), (1, _), (4, _), (5, _), (7, _), (8, _), (9, _), (28, _), (29, _), (30, _)]) ⟨rfl, rfl, rfl, rfl, rfl, rfl, rfl, rfl, rfl, rfl, trivial⟩ ?_
          refine GE_plain (.st 0 (.st 1 (.st 2 (.st 3 (.ld 4 [] .nil))))) rfl ?_
          refine GT_st rfl rfl rfl rfl (V_load rfl rfl ag_71 (CellAt.item rfl)) ?_
          first | refine GT_st rfl rfl rfl rfl (V_field rfl rfl fo_39_0) ?_ | refine GT_st rfl rfl rfl rfl (V_fieldA rfl rfl fo_39_0) ?_
          refine GT_st rfl rfl rfl rfl (V_load rfl rfl ag_9 (CellAt.item rfl)) ?_
          refine GT_st rfl rfl rfl rfl (V_move rfl rfl) ?_
          refine GT_mapUpdate rfl rfl rfl rfl rfl rfl rfl Tryz.underlying71 Tryz.underlying9 (GR_nil) ?_
          refine GT_nil ?_
          refine GE_inBlock ?_
          refine GE_slots (L' := [(0, _), (1, _), (4, _), (5, _), (7, _), (28, _), (29, _), (30, _)]) ⟨rfl, rfl, rfl, rfl, rfl, rfl, rfl, rfl, trivial⟩ ?_
          refine GE_plain (.st 0 (.ld 1 [] .nil)) rfl ?_
          refine GT_st rfl rfl rfl rfl (V_add rfl rfl rfl (wrap_i64 (by omega))) ?_
          refine GT_ldv rfl rfl rfl rfl rfl (V_move rfl rfl) (GR_nil) ?_
          refine GT_nil ?_
          exact GE_to (ih (k + 1, mput ks (l.getD k default).name k) ⟨by dsimp only; omega, mapOk_succ hm1⟩ (by dsimp only; omega)) ⟨rfl, rfl, rfl, rfl, rfl, rfl, rfl, rfl, trivial⟩ (HS.cons rfl (HS.cons rfl (HS.cons rfl (HS.cons rfl HS.nil))))
        · obtain rfl : k = l.length := (by omega)
          refine GE_exit rfl ?_
          refine GE_seq ?_
          refine GE_slots (L' := [(0, _), (1, _), (4, _), (5, _), (7, _)]) ⟨rfl, rfl, rfl, rfl, rfl, trivial⟩ ?_
          refine GE_plain (.ld 0 [] .nil) rfl ?_
          refine GT_alloc rfl rfl rfl rfl rfl zc_23 (fun _ => GR_nil) (fun b10 => ?_)
          refine GT_nil ?_
          refine GE_seq ?_
          refine GE_seq ?_
          refine GE_plain (.st 0 (.ld 1 [] .nil)) rfl ?_
          refine GT_st rfl rfl rfl rfl (V_move rfl rfl) ?_
          refine GT_call rfl rfl rfl rfl rfl rfl rfl rfl rn_26 (fun w hw => C_Lines) (fun _ _ => GR_nil) (fun bl _ => ?_)
          refine GT_nil ?_
          refine GE_block ?_
          refine GE_range rfl rfl rn_51 (fun T l5 q r0 hr0 hT hlk w hw => ?_)
          refine (C_Lines1 (s := s) (b1 := bl) (lp := l5) (J := (l5, .loop r0) :: (b10, blk [.slice none 0 0] 23) :: (b27, mobj ks) :: (b7, blk [.map (some b27)] 71) :: (b4, blk [.slice none 0 0] 23) :: (b5, blk [I 0] 26) :: []) (G := [(q, .deferred (some []))])
            (Q := fun r J => ∃ p A5 c5 I5, (r.length ≤ s.length ∧ p.length ≤ 32) ∧ ps1 l (rws s) [] = ps1 l (rws r) p ∧ Own 7 59 ePrt p (.slice A5 p.length c5) I5 ∧ J = (l5, .loop r0) :: (b10, blk [.slice A5 p.length c5] 23) :: (b27, mobj ks) :: (b7, blk [.map (some b27)] 71) :: (b4, blk [.slice none 0 0] 23) :: (b5, blk [I 0] 26) :: I5)
            (Qx := fun J => ps1 l (rws s) [] = none ∧ J = (l5, .loop { r0 with state := .done, pending := some .ret }) :: (b4, blk [.slice none 0 0] 23) :: (b5, blk [I 8] 26) :: [])
            (by omega) ?_ ⟨[], none, 0, [], ⟨Nat.le_refl _, Nat.zero_le _⟩, rfl, Own.nil, rfl⟩ (hw.hs ((show HS _ _ ((l5, .loop r0) :: (b10, _) :: (b27, _) :: (b7, _) :: (b4, _) :: (b5, _) :: (bl, _) :: [(q, .deferred (some []))]) from HS.cons rfl (HS.cons rfl (HS.cons rfl (HS.cons rfl (HS.cons rfl (HS.cons rfl (HS.cons rfl (HS.cons rfl HS.nil)))))))))) ).mono (fun v w' ⟨J', hQ', hw'⟩ => ?_)
          · rintro r J hrn ⟨p, A5, c5, I5, ⟨hrl, hpl⟩, hps, hO5, hJ⟩ G; subst hJ; subst hr0
            have hll := ln_len r
            have hlE := lnE_len r
            refine yield_of inferInstance rfl rfl hT hlk rfl rfl hm ?_
            refine GE_slots (L' := [(0, .slice A l.length c), (1, .string (stz s)), (4, ptr b4 0), (5, ptr b5 0), (7, ptr b7 0), (10, ptr b10 0), (42, .string (stz (lnE r)))]) ⟨rfl, rfl, rfl, rfl, rfl, rfl, rfl, trivial⟩ ?_
            refine GE_plain (.st 0 .nil) rfl ?_
            refine GT_st rfl rfl rfl rfl (V_assign rfl rfl) ?_
            refine GT_nil ?_
            refine GE_beginRound rfl ?_
            refine GE_block ?_
            refine GE_seq ?_
            refine GE_plain (.st 0 (.ld 1 [] (.ld 2 [] (.st 3 .nil)))) rfl ?_
            refine GT_st rfl rfl rfl rfl (V_move rfl rfl) ?_
            refine GT_call0 rfl rfl rfl rfl rfl rfl rfl rfl rn_28 (fun w hw => C_TrimSuffix (by omega)) (GR_nil) ?_
            rw [trim_lnE]
            refine GT_call rfl rfl rfl rfl rfl rfl rfl rfl rn_27 (fun w hw => C_Split (s := ln r) (E.sh hw) (by omega)) (fun _ _ => GR_nil) (fun u hu => ?_)
            refine GT_st rfl rfl rfl rfl (V_assign rfl rfl) ?_
            refine GT_nil ?_
            refine GE_seq ?_
            refine GE_seq ?_
            refine GE_slots (L' := [(4, _), (5, _), (7, _), (10, _), (12, _)]) ⟨rfl, rfl, rfl, rfl, rfl, trivial⟩ ?_
            refine GE_plain (.st 0 (.st 1 (.st 2 (.st 3 (.st 4 (.st 5 (.st 6 (.st 7 .nil)))))))) rfl ?_
            refine GT_st rfl rfl rfl rfl (V_move rfl rfl) ?_
            refine GT_st rfl rfl rfl rfl (V_len rfl Tryz.underlying75 rfl) ?_
            refine GT_st rfl rfl rfl rfl (V_neq rfl rfl rfl) ?_
            refine GT_st rfl rfl rfl rfl (V_move rfl rfl) ?_
            first | refine GT_splitNot (d := 49) rfl (fun q4 => ?_) (fun q4 => ?_) | refine GT_split (d := 49) rfl (fun q4 => ?_) (fun q4 => ?_) | refine GT_splitNotB (d := 49) rfl (fun q4 => ?_) (fun q4 => ?_) | refine GT_splitB (d := 49) rfl (fun q4 => ?_) (fun q4 => ?_)
            · skip
              refine GT_skip rfl rfl rfl rfl rfl (by decide) rfl rfl ?_
              refine GT_skip rfl rfl rfl rfl rfl (by decide) rfl rfl ?_
              refine GT_skip rfl rfl rfl rfl rfl (by decide) rfl rfl ?_
              refine GT_st rfl rfl rfl rfl (V_pick_t rfl rfl rfl) ?_
              refine GT_nil ?_
              refine GE_cond_t rfl ?_
              refine GE_seq ?_
              refine GE_slots (L' := [(4, _), (5, _)]) ⟨rfl, rfl, trivial⟩ ?_
              refine GE_plain (.ld 0 [] (.ld 1 [] .nil)) rfl ?_
              refine GT_store (vs := [_]) (l' := [_]) rfl rfl rfl rfl rfl rfl rfl sz_23 rfl rfl (Nat.le_of_ble_eq_true rfl) rfl (GR_nil) ?_
              refine GT_store (vs := [_]) (l' := [_]) rfl rfl rfl rfl rfl rfl rfl sz_26 rfl rfl (Nat.le_of_ble_eq_true rfl) rfl (GR_nil) ?_
              refine GT_nil ?_
              (try subst hob)
              refine GE_leave (some .ret) rfl (fun w hw => ⟨_, ⟨_, rfl, .inr ⟨rfl, hps.trans (ps1_len hrn (by first | exact .inl (by omega) | exact .inr (.inl (by omega)) | exact .inr (.inr (by omega)))), rfl⟩⟩, ?_⟩)
              exact hw.hs (HS.cons rfl (HS.cons rfl (HS.cons rfl (HS.last (I := G)))))
            · skip
              refine GT_st_g rfl rfl rfl rfl rfl rfl rfl (V_load rfl rfl ag_23 (CellAt.item rfl)) ?_
              refine GT_st_g rfl rfl rfl rfl rfl rfl rfl (V_len rfl Tryz.underlying23 rfl) ?_
              refine GT_st_g rfl rfl rfl rfl rfl rfl rfl (V_eql rfl rfl rfl) ?_
              refine GT_st rfl rfl rfl rfl (V_pick_f rfl rfl rfl) ?_
              refine GT_nil ?_
              first | refine GE_condNot rfl (fun q5 => ?_) (fun q5 => ?_) | refine GE_cond rfl (fun q5 => ?_) (fun q5 => ?_) | refine GE_condNotB rfl (fun q5 => ?_) (fun q5 => ?_) | refine GE_condB rfl (fun q5 => ?_) (fun q5 => ?_)
              · skip
                refine GE_seq ?_
                refine GE_slots (L' := [(4, _), (5, _)]) ⟨rfl, rfl, trivial⟩ ?_
                refine GE_plain (.ld 0 [] (.ld 1 [] .nil)) rfl ?_
                refine GT_store (vs := [_]) (l' := [_]) rfl rfl rfl rfl rfl rfl rfl sz_23 rfl rfl (Nat.le_of_ble_eq_true rfl) rfl (GR_nil) ?_
                refine GT_store (vs := [_]) (l' := [_]) rfl rfl rfl rfl rfl rfl rfl sz_26 rfl rfl (Nat.le_of_ble_eq_true rfl) rfl (GR_nil) ?_
                refine GT_nil ?_
                (try subst hob)
                refine GE_leave (some .ret) rfl (fun w hw => ⟨_, ⟨_, rfl, .inr ⟨rfl, hps.trans (ps1_len hrn (by first | exact .inl (by omega) | exact .inr (.inl (by omega)) | exact .inr (.inr (by omega)))), rfl⟩⟩, ?_⟩)
                exact hw.hs (HS.cons rfl (HS.cons rfl (HS.cons rfl (HS.last (I := G)))))
              · skip
                refine GE_skip ?_
                refine GE_seq ?_
                refine GE_slots (L' := [(4, _), (5, _), (7, _), (10, _), (12, _)]) ⟨rfl, rfl, rfl, rfl, rfl, trivial⟩ ?_
                refine GE_gen (l := l5) (fun ob hob => ?_)
                refine GE_plain (.ld 0 [] .nil) rfl ?_
                refine GT_alloc rfl rfl rfl rfl rfl zc_78 (fun _ => GR_nil) (fun b13 => ?_)
                refine GT_nil ?_
                refine GE_seq ?_
                refine GE_seq ?_
                refine GE_plain (.st 0 .nil) rfl ?_
                refine GT_st rfl rfl rfl rfl (V_assign rfl rfl) ?_
                refine GT_nil ?_
                refine GE_block ?_
                refine GE_to (GE_loop (ι := Nat) (fun i => 8 - i) (fun i => [(4, ptr b4 0), (5, ptr b5 0), (7, ptr b7 0), (10, ptr b10 0), (12, .slice u.1 (pcs 32 (ln r)).length u.2.1), (13, ptr b13 0), (14, I i)]) (fun i => (b13, blk (nv (pcs 32 (ln r)) i) 78) :: (u.2.2 ++ ((l5, ob) :: (b10, blk [.slice A5 p.length c5] 23) :: (b27, mobj ks) :: (b7, blk [.map (some b27)] 71) :: (b4, blk [.slice none 0 0] 23) :: (b5, blk [I 0] 26) :: (I5 ++ G)))) (fun i => 2 ≤ i ∧ i ≤ 8) ?_ 2 ?_) ⟨rfl, rfl, rfl, rfl, rfl, rfl, rfl, trivial⟩ (HS.cons rfl (HS.chunk (HS.cons rfl (HS.cons rfl (HS.cons rfl (HS.cons rfl (HS.cons rfl (HS.cons rfl (HS.chunk HS.last)))))))))
                · rintro i ⟨hi2, hi8⟩ ih2
                  refine GE_seq ?_
                  refine GE_seq ?_
                  refine GE_plain (.st 0 (.st 1 .nil)) rfl ?_
                  refine GT_st rfl rfl rfl rfl (V_move rfl rfl) ?_
                  refine GT_st rfl rfl rfl rfl (V_lss rfl rfl rfl) ?_
                  refine GT_nil ?_
                  first | refine GE_condNot rfl (fun q6 => ?_) (fun q6 => ?_) | refine GE_cond rfl (fun q6 => ?_) (fun q6 => ?_) | refine GE_condNotB rfl (fun q6 => ?_) (fun q6 => ?_) | refine GE_condB rfl (fun q6 => ?_) (fun q6 => ?_)
                  · have hi : i < 8 := (by omega); have hgl : (gw (pcs 32 (ln r)) i).length ≤ (ln r).length := pcs_mem_le 32 _ _ (getD_mem (l := pcs 32 (ln r)) (i := i) (by omega))
                    refine GE_skip ?_
                    refine GE_seq ?_
                    refine GE_block ?_
                    refine GE_plain (.st 0 (.st 1 (.st 2 (.st 3 (.st 4 (.ld 5 [] (.st 6 (.st 7 (.st 8 (.st 9 (.ld 10 [] .nil))))))))))) rfl ?_
                    refine GT_st rfl rfl rfl rfl (V_move rfl rfl) ?_
                    refine GT_st rfl rfl rfl rfl (V_move rfl rfl) ?_
                    refine GT_st rfl rfl rfl rfl (V_move rfl rfl) ?_
                    refine GT_st rfl rfl rfl rfl (V_index rfl rfl rfl Tryz.underlying75 sz_9 (k := i) rfl (by omega) (hu.isSome (k := i) (by omega))) ?_
                    refine GT_st rfl rfl rfl rfl (V_load rfl rfl ag_9 (CellAt.own0 (k := i) hu eB_len (by omega) (gw_get (by omega)))) ?_
                    refine GT_call rfl rfl rfl rfl rfl rfl rfl rfl rn_29 (fun w hw => C_Atoi (E.sh hw) (by omega)) (fun _ _ => GR_nil) (fun er _ => ?_)
                    refine GT_st rfl rfl rfl rfl (V_move rfl rfl) ?_
                    refine GT_st rfl rfl rfl rfl (V_extract rfl rfl rfl) ?_
                    refine GT_st rfl rfl rfl rfl (V_extract rfl rfl rfl) ?_
                    first | refine GT_st rfl rfl rfl rfl (V_indexArr rfl rfl rfl Tryz.underlying78 sz_3 rfl (by omega)) ?_ | refine GT_st rfl rfl rfl rfl (V_indexArrA rfl rfl rfl Tryz.underlying78 sz_3 rfl (by omega)) ?_
                    refine GT_store (b := b13) (q := 0 + i * 1) (vs := [_]) (l := nv (pcs 32 (ln r)) i) (l' := nv (pcs 32 (ln r)) (i + 1)) rfl rfl rfl rfl rfl rfl rfl sz_3 rfl rfl (by rw [nv_len]; show 0 + i * 1 + 1 ≤ 8; omega) (nv_succ _ ⟨hi2, hi⟩) (GR_nil) ?_
                    refine GT_nil ?_
                    refine GE_inBlock ?_
                    refine GE_slots (L' := [(4, _), (5, _), (7, _), (10, _), (12, _), (13, _), (14, _)]) ⟨rfl, rfl, rfl, rfl, rfl, rfl, rfl, trivial⟩ ?_
                    refine GE_plain (.st 0 (.st 1 (.ld 2 [] .nil))) rfl ?_
                    refine GT_st rfl rfl rfl rfl (V_move rfl rfl) ?_
                    refine GT_st rfl rfl rfl rfl (V_add rfl rfl rfl (wrap_i64 (by omega))) ?_
                    refine GT_ldv rfl rfl rfl rfl rfl (V_assign rfl rfl) (GR_nil) ?_
                    refine GT_nil ?_
                    exact GE_to (ih2 (i + 1) ⟨by omega, by omega⟩ (by omega)) ⟨rfl, rfl, rfl, rfl, rfl, rfl, rfl, trivial⟩ (HS.cons rfl (HS.chunk (HS.cons rfl (HS.cons rfl (HS.cons rfl (HS.cons rfl (HS.cons rfl (HS.cons rfl (HS.chunk HS.last)))))))))
                  · obtain rfl : i = 8 := (by omega)
                    refine GE_exit rfl ?_
                    refine GE_seq ?_
                    refine GE_drawn (.st 0 (.st 1 (.st 2 (.st 3 (.st 4 (.st 5 (.st 6 (.st 7 (.st 8 (.st 9 .nil)))))))))) [] (by decide +kernel) ?_
                    refine GT_st rfl rfl rfl rfl (V_load rfl rfl ag_71 (CellAt.item rfl)) ?_
                    refine GT_st rfl rfl rfl rfl (V_move rfl rfl) ?_
                    refine GT_st rfl rfl rfl rfl (V_index (k := 1) rfl rfl rfl Tryz.underlying75 sz_9 rfl (by omega) (hu.isSome (k := 1) (by omega))) ?_
                    refine GT_st rfl rfl rfl rfl (V_load rfl rfl ag_9 (CellAt.own0 (k := 1) hu eB_len (by omega) (gw_get (by omega)))) ?_
                    refine GT_st rfl rfl rfl rfl (V_lookupOk rfl rfl rfl Tryz.underlying71 Tryz.underlying9 zv_3) ?_
                    refine GT_st rfl rfl rfl rfl (V_move rfl rfl) ?_
                    refine GT_st rfl rfl rfl rfl (V_extract rfl rfl rfl) ?_
                    refine GT_st rfl rfl rfl rfl (V_extract rfl rfl rfl) ?_
                    refine GT_st rfl rfl rfl rfl (V_assign rfl rfl) ?_
                    refine GT_st rfl rfl rfl rfl (V_assign rfl rfl) ?_
                    refine GT_nil ?_
                    refine GE_seq ?_
                    refine GE_seq ?_
                    refine GE_slots (L' := [(4, _), (5, _), (10, _), (13, _), (15, _), (16, _)]) ⟨rfl, rfl, rfl, rfl, rfl, rfl, trivial⟩ ?_
                    refine GE_plain (.st 0 (.st 1 .nil)) rfl ?_
                    refine GT_st rfl rfl rfl rfl (V_move rfl rfl) ?_
                    first | refine GT_st rfl rfl rfl rfl (V_not rfl rfl) ?_ | refine GT_st rfl rfl rfl rfl (V_notB rfl rfl) ?_
                    refine GT_nil ?_
                    first | refine GE_condNot rfl (fun h3 => ?_) (fun h3 => ?_) | refine GE_cond rfl (fun h3 => ?_) (fun h3 => ?_) | refine GE_condNotB rfl (fun h3 => ?_) (fun h3 => ?_) | refine GE_condB rfl (fun h3 => ?_) (fun h3 => ?_)
                    · have h4 : ix l (stz (gw (pcs 32 (ln r)) 1)) < 0 := (by have hh := mapOk_has hm1 (stz (gw (pcs 32 (ln r)) 1)); rcases (show ix l (stz (gw (pcs 32 (ln r)) 1)) < 0 ∨ 0 ≤ ix l (stz (gw (pcs 32 (ln r)) 1)) by omega) with q | q; exact q; rw [decide_eq_true q] at hh; simp [hh] at h3)
                      refine GE_seq ?_
                      refine GE_slots (L' := [(4, _), (5, _)]) ⟨rfl, rfl, trivial⟩ ?_
                      refine GE_plain (.ld 0 [] (.ld 1 [] .nil)) rfl ?_
                      refine GT_store (vs := [_]) (l' := [_]) rfl rfl rfl rfl rfl rfl rfl sz_23 rfl rfl (Nat.le_of_ble_eq_true rfl) rfl (GR_nil) ?_
                      refine GT_store (vs := [_]) (l' := [_]) rfl rfl rfl rfl rfl rfl rfl sz_26 rfl rfl (Nat.le_of_ble_eq_true rfl) rfl (GR_nil) ?_
                      refine GT_nil ?_
                      (try subst hob)
                      refine GE_leave (some .ret) rfl (fun w hw => ⟨_, ⟨_, rfl, .inr ⟨rfl, hps.trans (ps1_len hrn (by first | exact .inl (by omega) | exact .inr (.inl (by omega)) | exact .inr (.inr (by omega)))), rfl⟩⟩, ?_⟩)
                      exact hw.hs (HS.cons rfl (HS.cons rfl (HS.cons rfl (HS.last (I := G)))))
                    · have h4 : 0 ≤ ix l (stz (gw (pcs 32 (ln r)) 1)) := (by have hh := mapOk_has hm1 (stz (gw (pcs 32 (ln r)) 1)); rcases (show ix l (stz (gw (pcs 32 (ln r)) 1)) < 0 ∨ 0 ≤ ix l (stz (gw (pcs 32 (ln r)) 1)) by omega) with q | q; (rw [decide_eq_false (by omega)] at hh; simp [hh] at h3); exact q); rw [mapOk_get hm1 h4]
                      refine GE_skip ?_
                      refine GE_plain (.st 0 (.st 1 (.st 2 (.st 3 (.st 4 (.st 5 (.st 6 (.st 7 (.st 8 (.st 9 (.st 10 (.st 11 (.st 12 (.st 13 (.st 14 (.ld 15 [] (.ld 16 [] (.ld 17 [] .nil)))))))))))))))))) rfl ?_
                      refine GT_st rfl rfl rfl rfl (V_load rfl rfl ag_23 (CellAt.item rfl)) ?_
                      refine GT_st rfl rfl rfl rfl (V_move rfl rfl) ?_
                      first | refine GT_st rfl rfl rfl rfl (V_indexArr (kk := 2) rfl rfl rfl Tryz.underlying78 sz_3 rfl (by omega)) ?_ | refine GT_st rfl rfl rfl rfl (V_indexArrA (kk := 2) rfl rfl rfl Tryz.underlying78 sz_3 rfl (by omega)) ?_
                      refine GT_st rfl rfl rfl rfl (V_load rfl rfl ag_3 (CellAt.item rfl)) ?_
                      first | refine GT_st rfl rfl rfl rfl (V_indexArr (kk := 3) rfl rfl rfl Tryz.underlying78 sz_3 rfl (by omega)) ?_ | refine GT_st rfl rfl rfl rfl (V_indexArrA (kk := 3) rfl rfl rfl Tryz.underlying78 sz_3 rfl (by omega)) ?_
                      refine GT_st rfl rfl rfl rfl (V_load rfl rfl ag_3 (CellAt.item rfl)) ?_
                      first | refine GT_st rfl rfl rfl rfl (V_indexArr (kk := 4) rfl rfl rfl Tryz.underlying78 sz_3 rfl (by omega)) ?_ | refine GT_st rfl rfl rfl rfl (V_indexArrA (kk := 4) rfl rfl rfl Tryz.underlying78 sz_3 rfl (by omega)) ?_
                      refine GT_st rfl rfl rfl rfl (V_load rfl rfl ag_3 (CellAt.item rfl)) ?_
                      first | refine GT_st rfl rfl rfl rfl (V_indexArr (kk := 5) rfl rfl rfl Tryz.underlying78 sz_3 rfl (by omega)) ?_ | refine GT_st rfl rfl rfl rfl (V_indexArrA (kk := 5) rfl rfl rfl Tryz.underlying78 sz_3 rfl (by omega)) ?_
                      refine GT_st rfl rfl rfl rfl (V_load rfl rfl ag_3 (CellAt.item rfl)) ?_
                      first | refine GT_st rfl rfl rfl rfl (V_indexArr (kk := 6) rfl rfl rfl Tryz.underlying78 sz_3 rfl (by omega)) ?_ | refine GT_st rfl rfl rfl rfl (V_indexArrA (kk := 6) rfl rfl rfl Tryz.underlying78 sz_3 rfl (by omega)) ?_
                      refine GT_st rfl rfl rfl rfl (V_load rfl rfl ag_3 (CellAt.item rfl)) ?_
                      first | refine GT_st rfl rfl rfl rfl (V_indexArr (kk := 7) rfl rfl rfl Tryz.underlying78 sz_3 rfl (by omega)) ?_ | refine GT_st rfl rfl rfl rfl (V_indexArrA (kk := 7) rfl rfl rfl Tryz.underlying78 sz_3 rfl (by omega)) ?_
                      refine GT_st rfl rfl rfl rfl (V_load rfl rfl ag_3 (CellAt.item rfl)) ?_
                      refine GT_st rfl rfl rfl rfl (V_build (vs := [_, _, _, _, _, _, _]) rfl rfl zc_59 pl_59 sa_59 rfl) ?_
                      refine GT_buildSlice (z := [_, _, _, _, _, _, _]) rfl rfl rfl rfl rfl Tryz.underlying23 zc_59 sz_59 (by decide) rfl rfl (fun _ => GR_nil) (fun b93 => ?_)
                      refine GT_append (enc := ePrt) (m := [⟨ix l (stz (gw (pcs 32 (ln r)) 1)), sel (pcs 32 (ln r)) 8 2, sel (pcs 32 (ln r)) 8 3, sel (pcs 32 (ln r)) 8 4, sel (pcs 32 (ln r)) 8 5, sel (pcs 32 (ln r)) 8 6, sel (pcs 32 (ln r)) 8 7⟩]) rfl rfl rfl rfl rfl rfl rfl hO5 (fun w m => RdL.own' m ePrt_len) Tryz.underlying23 zc_59 sz_59 ⟨rfl, by decide⟩ by_59 ⟨by simp only [List.length_singleton]; omega, by simp only [List.length_singleton]; omega⟩ ePrt_len ePrt_one (fun _ _ _ _ => GR_nil) (fun A6 c6 I6 hO6 => ?_)
                      refine GT_store (vs := [_]) (l' := [_]) rfl rfl rfl rfl rfl rfl rfl sz_23 rfl rfl (Nat.le_of_ble_eq_true rfl) rfl (GR_nil) ?_
                      refine GT_nil ?_
                      refine GE_inBlock ?_
                      subst hob
                      refine GE_leave none rfl (fun w hw => ⟨_, ⟨_, rfl, .inl ⟨rfl, _, A6, c6, I6, ⟨by have := aft_lt hrn; omega, by rw [List.length_append, List.length_singleton]; omega⟩, hps.trans (ps1_next hrn (by omega) (by omega) (by omega)), hO6, rfl⟩⟩, ?_⟩)
                      exact hw.hs (HS.cons rfl (HS.cons rfl (HS.cons rfl (HS.cons rfl (HS.cons rfl (HS.cons rfl (HS.chunk HS.last)))))))
                · exact ⟨by omega, by omega⟩
          · subst hr0
            rcases hQ' with ⟨p, A5, c5, I5, ⟨_, hpl⟩, hps, hO5, rfl⟩ | ⟨hps, rfl⟩
            case inr =>
              refine ⟨_, [(b4, blk [.slice none 0 0] 23), (b5, blk [I 8] 26)], ?_, hw'.hs (HS.cons rfl (HS.cons rfl (HS.cons rfl (HS.cons rfl HS.nil)))), ?_⟩
              · intro h; cases h
              refine GE_D (D' := dq [q]) ?_ rfl
              refine GE_retq Tryz.func9 ⟨_, _, ⟨_, rfl, fun w m => run_loadVar_one ag_23 (CellAt.item rfl w m)⟩, ⟨_, rfl, fun w m => run_loadVar_one ag_26 (CellAt.item rfl w m)⟩, rfl⟩ (fun w hw => ?_)
              have e : pa1 l s = ([], 8) := (by rw [eU, hps])
              exact ⟨(none, 0, []), by rw [e]; exact Own.nil, by rw [e] <;> rfl, hw.nil⟩
            refine ⟨_, (b10, blk [.slice A5 p.length c5] 23) :: (b4, blk [.slice none 0 0] 23) :: (b5, blk [I 0] 26) :: I5, ?_, hw'.hs (HS.cons rfl (HS.cons rfl (HS.cons rfl (HS.cons rfl (HS.cons rfl HS.last))))), ?_⟩
            · intro h; cases h
            refine GE_D (D' := dq [q]) ?_ rfl
            refine GE_inBlock ?_
            refine GE_seq ?_
            refine GE_seq ?_
            refine GE_plain (.st 0 (.st 1 (.ld 2 [] (.st 3 (.st 4 (.st 5 (.st 6 (.st 7 .nil)))))))) rfl ?_
            refine GT_st rfl rfl rfl rfl (V_move rfl rfl) ?_
            refine GT_st rfl rfl rfl rfl (V_load rfl rfl ag_23 (CellAt.item rfl)) ?_
            refine GT_call0 rfl rfl rfl rfl rfl rfl rfl rfl rn_7 (fun w hw => C_Text (E.sh hw) (h.sh hw) (hO5.rdH ePrt_len hw)) (GR_nil) ?_
            refine GT_st rfl rfl rfl rfl (V_move rfl rfl) ?_
            refine GT_st rfl rfl rfl rfl (V_extract rfl rfl rfl) ?_
            refine GT_st rfl rfl rfl rfl (V_extract rfl rfl rfl) ?_
            refine GT_st rfl rfl rfl rfl (V_assign rfl rfl) ?_
            refine GT_st rfl rfl rfl rfl (V_assign rfl rfl) ?_
            refine GT_nil ?_
            refine GE_seq ?_
            refine GE_slots (L' := [(1, _), (4, _), (5, _), (10, _), (17, _), (18, _)]) ⟨rfl, rfl, rfl, rfl, rfl, rfl, trivial⟩ ?_
            refine GE_plain (.st 0 (.st 1 (.st 2 (.st 3 (.st 4 (.st 5 (.st 6 .nil))))))) rfl ?_
            refine GT_st rfl rfl rfl rfl (V_move rfl rfl) ?_
            refine GT_st rfl rfl rfl rfl (V_neq rfl rfl rfl) ?_
            refine GT_st rfl rfl rfl rfl (V_move rfl rfl) ?_
            first | refine GT_splitNot (d := 103) rfl (fun q7 => ?_) (fun q7 => ?_) | refine GT_split (d := 103) rfl (fun q7 => ?_) (fun q7 => ?_) | refine GT_splitNotB (d := 103) rfl (fun q7 => ?_) (fun q7 => ?_) | refine GT_splitB (d := 103) rfl (fun q7 => ?_) (fun q7 => ?_)
            · skip
              refine GT_skip rfl rfl rfl rfl rfl (by decide) rfl rfl ?_
              refine GT_skip rfl rfl rfl rfl rfl (by decide) rfl rfl ?_
              refine GT_skip rfl rfl rfl rfl rfl (by decide) rfl rfl ?_
              refine GT_st rfl rfl rfl rfl (V_pick_t rfl rfl rfl) ?_
              refine GT_nil ?_
              refine GE_cond_t rfl ?_
              refine GE_seq ?_
              refine GE_slots (L' := [(4, _), (5, _)]) ⟨rfl, rfl, trivial⟩ ?_
              refine GE_plain (.ld 0 [] (.ld 1 [] .nil)) rfl ?_
              refine GT_store (vs := [_]) (l' := [_]) rfl rfl rfl rfl rfl rfl rfl sz_23 rfl rfl (Nat.le_of_ble_eq_true rfl) rfl (GR_nil) ?_
              refine GT_store (vs := [_]) (l' := [_]) rfl rfl rfl rfl rfl rfl rfl sz_26 rfl rfl (Nat.le_of_ble_eq_true rfl) rfl (GR_nil) ?_
              refine GT_nil ?_
              refine GE_retq Tryz.func9 ⟨_, _, ⟨_, rfl, fun w m => run_loadVar_one ag_23 (CellAt.item rfl w m)⟩, ⟨_, rfl, fun w m => run_loadVar_one ag_26 (CellAt.item rfl w m)⟩, rfl⟩ (fun w hw => ?_)
              have e : pa1 l s = ([], 8) := (by rw [eU, hps, rws_nil, ps1]; refine if_neg ?_; rintro ⟨e1, e2⟩; first | exact q7 e1 | (refine q8 ?_; rw [txt, if_pos e1, e2])); exact ⟨(none, 0, []), by rw [e]; exact Own.nil, by rw [e] <;> rfl, hw.nil⟩
            · skip
              refine GT_st_g rfl rfl rfl rfl rfl rfl rfl (V_move rfl rfl) ?_
              refine GT_st_g rfl rfl rfl rfl rfl rfl rfl (V_move rfl rfl) ?_
              refine GT_st_g rfl rfl rfl rfl rfl rfl rfl (V_neqStr rfl rfl rfl) ?_
              refine GT_st rfl rfl rfl rfl (V_pick_f rfl rfl rfl) ?_
              refine GT_nil ?_
              first | refine GE_condNot rfl (fun q8 => ?_) (fun q8 => ?_) | refine GE_cond rfl (fun q8 => ?_) (fun q8 => ?_) | refine GE_condNotB rfl (fun q8 => ?_) (fun q8 => ?_) | refine GE_condB rfl (fun q8 => ?_) (fun q8 => ?_)
              · skip
                refine GE_seq ?_
                refine GE_slots (L' := [(4, _), (5, _)]) ⟨rfl, rfl, trivial⟩ ?_
                refine GE_plain (.ld 0 [] (.ld 1 [] .nil)) rfl ?_
                refine GT_store (vs := [_]) (l' := [_]) rfl rfl rfl rfl rfl rfl rfl sz_23 rfl rfl (Nat.le_of_ble_eq_true rfl) rfl (GR_nil) ?_
                refine GT_store (vs := [_]) (l' := [_]) rfl rfl rfl rfl rfl rfl rfl sz_26 rfl rfl (Nat.le_of_ble_eq_true rfl) rfl (GR_nil) ?_
                refine GT_nil ?_
                refine GE_retq Tryz.func9 ⟨_, _, ⟨_, rfl, fun w m => run_loadVar_one ag_23 (CellAt.item rfl w m)⟩, ⟨_, rfl, fun w m => run_loadVar_one ag_26 (CellAt.item rfl w m)⟩, rfl⟩ (fun w hw => ?_)
                have e : pa1 l s = ([], 8) := (by rw [eU, hps, rws_nil, ps1]; refine if_neg ?_; rintro ⟨e1, e2⟩; first | exact q7 e1 | (refine q8 ?_; rw [txt, if_pos e1, e2])); exact ⟨(none, 0, []), by rw [e]; exact Own.nil, by rw [e] <;> rfl, hw.nil⟩
              · skip
                refine GE_skip ?_
                refine GE_seq ?_
                refine GE_slots (L' := [(4, _), (5, _), (10, _)]) ⟨rfl, rfl, rfl, trivial⟩ ?_
                refine GE_plain (.st 0 (.ld 1 [] (.ld 2 [] .nil))) rfl ?_
                refine GT_st rfl rfl rfl rfl (V_load rfl rfl ag_23 (CellAt.item rfl)) ?_
                refine GT_store (vs := [_]) (l' := [_]) rfl rfl rfl rfl rfl rfl rfl sz_23 rfl rfl (Nat.le_of_ble_eq_true rfl) rfl (GR_nil) ?_
                refine GT_store (vs := [_]) (l' := [_]) rfl rfl rfl rfl rfl rfl rfl sz_26 rfl rfl (Nat.le_of_ble_eq_true rfl) rfl (GR_nil) ?_
                refine GT_nil ?_
                refine GE_retq Tryz.func9 ⟨_, _, ⟨_, rfl, fun w m => run_loadVar_one ag_23 (CellAt.item rfl w m)⟩, ⟨_, rfl, fun w m => run_loadVar_one ag_26 (CellAt.item rfl w m)⟩, rfl⟩ (fun w hw => ?_)
                have e : pa1 l s = (p, 0) := (by rw [eU, hps, rws_nil, ps1]; refine if_pos ⟨q7, ?_⟩; have q9 := stz_inj.1 q8; rw [txt, if_pos q7] at q9; exact q9); exact ⟨(A5, c5, I5), by rw [e]; exact hO5, by rw [e] <;> rfl, hw.hs (C := cx Tryz.prog hm 0 0 _ none' fun _ _ => True) HS.last⟩
      · exact ⟨Nat.zero_le _, mapOk_0 l⟩
end
end Go.Proofs.YtdcjgjopmicidaaGreatDoor
/- TakeTexts, walked. -/
namespace Go.Proofs.YtdcjgjopmicidaaGreatDoor
open Go.Sx Go.Proofs Go.RowKit

theorem pa1_len (l : List Tk) (s : List UInt8) : (pa1 l s).1.length ≤ 32 := by
  by_cases h : (pa1 l s).2 = 0
  · exact (prog_each (pa1_back h).1).2.1
  · have e : (pa1 l s).1 = [] := by
      rw [pa_eq] at h ⊢
      unfold pa2 unT at h ⊢
      split
      · rename_i h0
        rw [if_pos h0] at h
        split
        · rfl
        · rename_i h1
          rw [if_neg h1] at h
          split
          · rename_i h2
            rw [if_pos h2] at h
            exact absurd rfl h
          · rfl
      · rfl
    rw [e]; exact Nat.zero_le _
section
variable {w : World} {A A2 B : Option Addr} {c c2 c3 : Nat} {l : List Tk} {p : List Prt} {s : List UInt8}
theorem C_partsT {a b : List Prt} (e : a = b) (hn : a.length ≤ 1000000000000) (ha : RdL w 7 ePrt A a) (hb : RdL w 7 ePrt B b) : Con0 Tryz.prog 11 [.slice A a.length c, .slice B b.length c2] w (.bool true) := by
  have := C_parts (c := c) (c2 := c2) hn ha hb
  rw [decide_eq_true e] at this
  exact this
set_option maxRecDepth 20000 in
set_option maxHeartbeats 2000000 in
theorem L_TakeTexts (E : Env w) (h : Tks w A l) (_ : l.length ≤ c ∧ c ≤ maxLen) (hp : RdL w 7 ePrt A2 p) (_ : p.length ≤ c2 ∧ c2 ≤ maxLen ∧ ∀ x ∈ p, x.wf) : Con0 Tryz.prog 3 [.slice A l.length c, .slice A2 p.length c2, .string (stz s)] w (.bool true) := by
  have hsz := stz_size s
  have hul := pa1_len l s
  refine Ret_of (vs := [_, _, _]) hm none' Tryz.func3 rfl Tryz.ntmps3 rfl ?_
  dsimp only [slotsOf]
  refine GE_seq ?_
  refine GE_plain (.st 0 .nil) rfl ?_
  refine GT_st rfl rfl rfl rfl (V_assign rfl rfl) ?_
  refine GT_nil ?_
  refine GE_seq ?_
  refine GE_seq ?_
  refine GE_plain (.st 0 (.st 1 (.ld 2 [] (.st 3 (.st 4 (.st 5 (.st 6 (.st 7 (.st 8 (.st 9 (.st 10 (.st 11 (.st 12 (.st 13 (.st 14 (.st 15 (.st 16 (.st 17 .nil)))))))))))))))))) rfl ?_
  refine GT_st rfl rfl rfl rfl (V_move rfl rfl) ?_
  refine GT_st rfl rfl rfl rfl (V_move rfl rfl) ?_
  refine GT_call0 rfl rfl rfl rfl rfl rfl rfl rfl rn_5 (fun w hw => C_great (h.sh hw)) (GR_nil) ?_
  refine GT_st rfl rfl rfl rfl (V_move rfl rfl) ?_
  first | refine GT_splitNot (d := 18) rfl (fun q1 => ?_) (fun q1 => ?_) | refine GT_split (d := 18) rfl (fun q1 => ?_) (fun q1 => ?_) | refine GT_splitNotB (d := 18) rfl (fun q1 => ?_) (fun q1 => ?_) | refine GT_splitB (d := 18) rfl (fun q1 => ?_) (fun q1 => ?_)
  · skip
    refine GT_skip rfl rfl rfl rfl rfl (by decide) rfl rfl ?_
    refine GT_skip rfl rfl rfl rfl rfl (by decide) rfl rfl ?_
    refine GT_skip rfl rfl rfl rfl rfl (by decide) rfl rfl ?_
    refine GT_skip rfl rfl rfl rfl rfl (by decide) rfl rfl ?_
    refine GT_skip rfl rfl rfl rfl rfl (by decide) rfl rfl ?_
    refine GT_skip rfl rfl rfl rfl rfl (by decide) rfl rfl ?_
    refine GT_skip rfl rfl rfl rfl rfl (by decide) rfl rfl ?_
    refine GT_skip rfl rfl rfl rfl rfl (by decide) rfl rfl ?_
    refine GT_st rfl rfl rfl rfl (V_pick_t rfl rfl rfl) ?_
    refine GT_st rfl rfl rfl rfl (V_move rfl rfl) ?_
    refine GT_skip rfl rfl rfl rfl rfl (by decide) rfl rfl ?_
    refine GT_skip rfl rfl rfl rfl rfl (by decide) rfl rfl ?_
    refine GT_skip rfl rfl rfl rfl rfl (by decide) rfl rfl ?_
    refine GT_st rfl rfl rfl rfl (V_pick_t rfl rfl rfl) ?_
    refine GT_nil ?_
    refine GE_cond_t rfl ?_
    refine GE_seq ?_
    refine GE_slots (L' := []) trivial ?_
    refine GE_plain (.ld 0 [] (.st 1 .nil)) rfl ?_
    refine GT_call0 rfl rfl rfl rfl rfl rfl rfl rfl rn_6 (fun w hw => C_Works) (GR_nil) ?_
    refine GT_st rfl rfl rfl rfl (V_assign rfl rfl) ?_
    refine GT_nil ?_
    refine GE_ret Tryz.func3 rfl (fun w hw => ⟨?_, hw.nil⟩)
    rfl
  · skip
    refine GT_st_g rfl rfl rfl rfl rfl rfl rfl (V_move rfl rfl) ?_
    refine GT_st_g rfl rfl rfl rfl rfl rfl rfl (V_len_str rfl Tryz.underlying9 rfl) ?_
    refine GT_st_g rfl rfl rfl rfl rfl rfl rfl (V_gtr rfl rfl rfl) ?_
    refine GT_st_g rfl rfl rfl rfl rfl rfl rfl (V_move rfl rfl) ?_
    first | refine GT_splitNot (d := 22) rfl (fun q2 => ?_) (fun q2 => ?_) | refine GT_split (d := 22) rfl (fun q2 => ?_) (fun q2 => ?_) | refine GT_splitNotB (d := 22) rfl (fun q2 => ?_) (fun q2 => ?_) | refine GT_splitB (d := 22) rfl (fun q2 => ?_) (fun q2 => ?_)
    · skip
      refine GT_st_g rfl rfl rfl rfl rfl rfl rfl (V_move rfl rfl) ?_
      refine GT_st_g rfl rfl rfl rfl rfl rfl rfl (V_len_str rfl Tryz.underlying9 rfl) ?_
      refine GT_st_g rfl rfl rfl rfl rfl rfl rfl (V_leq rfl rfl rfl) ?_
      refine GT_st_g rfl rfl rfl rfl rfl rfl rfl (V_pick_t rfl rfl rfl) ?_
      refine GT_st rfl rfl rfl rfl (V_pick_f rfl rfl rfl) ?_
      refine GT_st rfl rfl rfl rfl (V_move rfl rfl) ?_
      first | refine GT_splitNot (d := 28) rfl (fun q3 => ?_) (fun q3 => ?_) | refine GT_split (d := 28) rfl (fun q3 => ?_) (fun q3 => ?_) | refine GT_splitNotB (d := 28) rfl (fun q3 => ?_) (fun q3 => ?_) | refine GT_splitB (d := 28) rfl (fun q3 => ?_) (fun q3 => ?_)
      · skip
        refine GT_skip rfl rfl rfl rfl rfl (by decide) rfl rfl ?_
        refine GT_skip rfl rfl rfl rfl rfl (by decide) rfl rfl ?_
        refine GT_skip rfl rfl rfl rfl rfl (by decide) rfl rfl ?_
        refine GT_st rfl rfl rfl rfl (V_pick_t rfl rfl rfl) ?_
        refine GT_nil ?_
        refine GE_cond_t rfl ?_
        refine GE_seq ?_
        refine GE_slots (L' := []) trivial ?_
        refine GE_plain (.ld 0 [] (.st 1 .nil)) rfl ?_
        refine GT_call0 rfl rfl rfl rfl rfl rfl rfl rfl rn_6 (fun w hw => C_Works) (GR_nil) ?_
        refine GT_st rfl rfl rfl rfl (V_assign rfl rfl) ?_
        refine GT_nil ?_
        refine GE_ret Tryz.func3 rfl (fun w hw => ⟨?_, hw.nil⟩)
        rfl
      · skip
        refine GT_st_g rfl rfl rfl rfl rfl rfl rfl (V_move rfl rfl) ?_
        refine GT_st_g rfl rfl rfl rfl rfl rfl rfl (V_len_str rfl Tryz.underlying9 rfl) ?_
        refine GT_st_g rfl rfl rfl rfl rfl rfl rfl (V_gtr rfl rfl rfl) ?_
        refine GT_st rfl rfl rfl rfl (V_pick_f rfl rfl rfl) ?_
        refine GT_nil ?_
        first | refine GE_condNot rfl (fun h1 => ?_) (fun h1 => ?_) | refine GE_cond rfl (fun h1 => ?_) (fun h1 => ?_) | refine GE_condNotB rfl (fun h1 => ?_) (fun h1 => ?_) | refine GE_condB rfl (fun h1 => ?_) (fun h1 => ?_)
        · skip
          refine GE_seq ?_
          refine GE_slots (L' := []) trivial ?_
          refine GE_plain (.ld 0 [] (.st 1 .nil)) rfl ?_
          refine GT_call0 rfl rfl rfl rfl rfl rfl rfl rfl rn_6 (fun w hw => C_Works) (GR_nil) ?_
          refine GT_st rfl rfl rfl rfl (V_assign rfl rfl) ?_
          refine GT_nil ?_
          refine GE_ret Tryz.func3 rfl (fun w hw => ⟨?_, hw.nil⟩)
          rfl
        · skip
          refine GE_skip ?_
          refine GE_seq ?_
          refine GE_slots (L' := [(0, _), (1, _), (2, _)]) ⟨rfl, rfl, rfl, trivial⟩ ?_
          refine GE_plain (.st 0 (.st 1 (.ld 2 [] (.st 3 (.st 4 (.st 5 (.st 6 (.st 7 .nil)))))))) rfl ?_
          refine GT_st rfl rfl rfl rfl (V_move rfl rfl) ?_
          refine GT_st rfl rfl rfl rfl (V_move rfl rfl) ?_
          refine GT_call0 rfl rfl rfl rfl rfl rfl rfl rfl rn_7 (fun w hw => C_Text (E.sh hw) (h.sh hw) (hp.sh hw)) (GR_nil) ?_
          refine GT_st rfl rfl rfl rfl (V_move rfl rfl) ?_
          refine GT_st rfl rfl rfl rfl (V_extract rfl rfl rfl) ?_
          refine GT_st rfl rfl rfl rfl (V_extract rfl rfl rfl) ?_
          refine GT_st rfl rfl rfl rfl (V_assign rfl rfl) ?_
          refine GT_st rfl rfl rfl rfl (V_assign rfl rfl) ?_
          refine GT_nil ?_
          refine GE_seq ?_
          refine GE_slots (L' := [(0, _), (1, _), (2, _), (7, _), (8, _)]) ⟨rfl, rfl, rfl, rfl, rfl, trivial⟩ ?_
          refine GE_plain (.st 0 (.st 1 (.ld 2 [] (.st 3 (.st 4 (.st 5 (.st 6 (.st 7 .nil)))))))) rfl ?_
          refine GT_st rfl rfl rfl rfl (V_move rfl rfl) ?_
          refine GT_st rfl rfl rfl rfl (V_move rfl rfl) ?_
          refine GT_call0 rfl rfl rfl rfl rfl rfl rfl rfl rn_8 (fun w hw => C_rText (h.sh hw) (hp.sh hw)) (GR_nil) ?_
          refine GT_st rfl rfl rfl rfl (V_move rfl rfl) ?_
          refine GT_st rfl rfl rfl rfl (V_extract rfl rfl rfl) ?_
          refine GT_st rfl rfl rfl rfl (V_extract rfl rfl rfl) ?_
          refine GT_st rfl rfl rfl rfl (V_assign rfl rfl) ?_
          refine GT_st rfl rfl rfl rfl (V_assign rfl rfl) ?_
          refine GT_nil ?_
          refine GE_seq ?_
          refine GE_slots (L' := [(0, _), (2, _), (7, _), (8, _), (9, _), (10, _)]) ⟨rfl, rfl, rfl, rfl, rfl, rfl, trivial⟩ ?_
          refine GE_plain (.st 0 (.st 1 (.ld 2 [] (.st 3 (.st 4 (.st 5 (.st 6 (.st 7 .nil)))))))) rfl ?_
          refine GT_st rfl rfl rfl rfl (V_move rfl rfl) ?_
          refine GT_st rfl rfl rfl rfl (V_move rfl rfl) ?_
          refine GT_call rfl rfl rfl rfl rfl rfl rfl rfl rn_9 (fun w hw => C_Parse (s := s) (E.sh hw) (h.sh hw) (by omega)) (fun _ _ => GR_nil) (fun u hu => ?_)
          refine GT_st rfl rfl rfl rfl (V_move rfl rfl) ?_
          refine GT_st rfl rfl rfl rfl (V_extract rfl rfl rfl) ?_
          refine GT_st rfl rfl rfl rfl (V_extract rfl rfl rfl) ?_
          refine GT_st rfl rfl rfl rfl (V_assign rfl rfl) ?_
          refine GT_st rfl rfl rfl rfl (V_assign rfl rfl) ?_
          refine GT_nil ?_
          refine GE_seq ?_
          refine GE_slots (L' := [(0, _), (2, _), (7, _), (8, _), (9, _), (10, _), (11, _), (12, _)]) ⟨rfl, rfl, rfl, rfl, rfl, rfl, rfl, rfl, trivial⟩ ?_
          refine GE_plain (.st 0 (.st 1 (.ld 2 [] (.st 3 (.st 4 (.st 5 (.st 6 (.st 7 .nil)))))))) rfl ?_
          refine GT_st rfl rfl rfl rfl (V_move rfl rfl) ?_
          refine GT_st rfl rfl rfl rfl (V_move rfl rfl) ?_
          refine GT_call rfl rfl rfl rfl rfl rfl rfl rfl rn_10 (fun w hw => C_rParse (s := s) (h.sh hw) (by omega)) (fun _ _ => GR_nil) (fun v hv => ?_)
          refine GT_st rfl rfl rfl rfl (V_move rfl rfl) ?_
          refine GT_st rfl rfl rfl rfl (V_extract rfl rfl rfl) ?_
          refine GT_st rfl rfl rfl rfl (V_extract rfl rfl rfl) ?_
          refine GT_st rfl rfl rfl rfl (V_assign rfl rfl) ?_
          refine GT_st rfl rfl rfl rfl (V_assign rfl rfl) ?_
          refine GT_nil ?_
          refine GE_seq ?_
          refine GE_slots (L' := [(7, _), (8, _), (9, _), (10, _), (11, _), (12, _), (13, _), (14, _)]) ⟨rfl, rfl, rfl, rfl, rfl, rfl, rfl, rfl, trivial⟩ ?_
          refine GE_plain (.st 0 (.st 1 (.st 2 (.st 3 (.st 4 (.st 5 (.st 6 (.st 7 (.st 8 (.st 9 (.st 10 (.ld 11 [] (.st 12 (.st 13 (.st 14 (.st 15 (.st 16 (.st 17 (.st 18 (.ld 19 [] (.st 20 (.st 21 .nil)))))))))))))))))))))) rfl ?_
          refine GT_st rfl rfl rfl rfl (V_move rfl rfl) ?_
          refine GT_st rfl rfl rfl rfl (V_move rfl rfl) ?_
          refine GT_st rfl rfl rfl rfl (V_isT (V_eqlStr rfl rfl rfl) rfl) ?_
          refine GT_st rfl rfl rfl rfl (V_move rfl rfl) ?_
          refine GT_st_g rfl rfl rfl rfl rfl rfl rfl (V_move rfl rfl) ?_
          refine GT_st_g rfl rfl rfl rfl rfl rfl rfl (V_move rfl rfl) ?_
          refine GT_st_g rfl rfl rfl rfl rfl rfl rfl (V_isT (V_eql rfl rfl rfl) rfl) ?_
          refine GT_st rfl rfl rfl rfl (V_pick_t rfl rfl rfl) ?_
          refine GT_st rfl rfl rfl rfl (V_move rfl rfl) ?_
          refine GT_st_g rfl rfl rfl rfl rfl rfl rfl (V_move rfl rfl) ?_
          refine GT_st_g rfl rfl rfl rfl rfl rfl rfl (V_move rfl rfl) ?_
          refine GT_call0_g rfl rfl rfl rfl rfl rfl rfl rfl rfl rfl rfl rn_11 (fun w hw => C_partsT (pa_eq l s ▸ rfl) (by omega) (hu.rdH ePrt_len hw) (hv.rdH ePrt_len hw)) (GR_nil) ?_
          refine GT_st rfl rfl rfl rfl (V_pick_t rfl rfl rfl) ?_
          refine GT_st rfl rfl rfl rfl (V_move rfl rfl) ?_
          refine GT_st_g rfl rfl rfl rfl rfl rfl rfl (V_move rfl rfl) ?_
          refine GT_st_g rfl rfl rfl rfl rfl rfl rfl (V_move rfl rfl) ?_
          refine GT_st_g rfl rfl rfl rfl rfl rfl rfl (V_isT (V_eql rfl rfl rfl) (by rw [pa_eq])) ?_
          refine GT_st rfl rfl rfl rfl (V_pick_t rfl rfl rfl) ?_
          refine GT_st rfl rfl rfl rfl (V_move rfl rfl) ?_
          refine GT_call0_g rfl rfl rfl rfl rfl rfl rfl rfl rfl rfl rfl rn_6 (fun w hw => C_Works) (GR_nil) ?_
          refine GT_st rfl rfl rfl rfl (V_pick_t rfl rfl rfl) ?_
          refine GT_st rfl rfl rfl rfl (V_assign rfl rfl) ?_
          refine GT_nil ?_
          refine GE_ret Tryz.func3 rfl (fun w hw => ⟨?_, hw.nil⟩)
          rfl
    · skip
      refine GT_skip rfl rfl rfl rfl rfl (by decide) rfl rfl ?_
      refine GT_skip rfl rfl rfl rfl rfl (by decide) rfl rfl ?_
      refine GT_skip rfl rfl rfl rfl rfl (by decide) rfl rfl ?_
      refine GT_st_g rfl rfl rfl rfl rfl rfl rfl (V_pick_f rfl rfl rfl) ?_
      refine GT_st rfl rfl rfl rfl (V_pick_f rfl rfl rfl) ?_
      refine GT_st rfl rfl rfl rfl (V_move rfl rfl) ?_
      refine GT_st_g rfl rfl rfl rfl rfl rfl rfl (V_move rfl rfl) ?_
      refine GT_st_g rfl rfl rfl rfl rfl rfl rfl (V_len_str rfl Tryz.underlying9 rfl) ?_
      refine GT_st_g rfl rfl rfl rfl rfl rfl rfl (V_gtr rfl rfl rfl) ?_
      refine GT_st rfl rfl rfl rfl (V_pick_f rfl rfl rfl) ?_
      refine GT_nil ?_
      first | refine GE_condNot rfl (fun h1 => ?_) (fun h1 => ?_) | refine GE_cond rfl (fun h1 => ?_) (fun h1 => ?_) | refine GE_condNotB rfl (fun h1 => ?_) (fun h1 => ?_) | refine GE_condB rfl (fun h1 => ?_) (fun h1 => ?_)
      · skip
        refine GE_seq ?_
        refine GE_slots (L' := []) trivial ?_
        refine GE_plain (.ld 0 [] (.st 1 .nil)) rfl ?_
        refine GT_call0 rfl rfl rfl rfl rfl rfl rfl rfl rn_6 (fun w hw => C_Works) (GR_nil) ?_
        refine GT_st rfl rfl rfl rfl (V_assign rfl rfl) ?_
        refine GT_nil ?_
        refine GE_ret Tryz.func3 rfl (fun w hw => ⟨?_, hw.nil⟩)
        rfl
      · skip
        refine GE_skip ?_
        refine GE_seq ?_
        refine GE_slots (L' := [(0, _), (1, _), (2, _)]) ⟨rfl, rfl, rfl, trivial⟩ ?_
        refine GE_plain (.st 0 (.st 1 (.ld 2 [] (.st 3 (.st 4 (.st 5 (.st 6 (.st 7 .nil)))))))) rfl ?_
        refine GT_st rfl rfl rfl rfl (V_move rfl rfl) ?_
        refine GT_st rfl rfl rfl rfl (V_move rfl rfl) ?_
        refine GT_call0 rfl rfl rfl rfl rfl rfl rfl rfl rn_7 (fun w hw => C_Text (E.sh hw) (h.sh hw) (hp.sh hw)) (GR_nil) ?_
        refine GT_st rfl rfl rfl rfl (V_move rfl rfl) ?_
        refine GT_st rfl rfl rfl rfl (V_extract rfl rfl rfl) ?_
        refine GT_st rfl rfl rfl rfl (V_extract rfl rfl rfl) ?_
        refine GT_st rfl rfl rfl rfl (V_assign rfl rfl) ?_
        refine GT_st rfl rfl rfl rfl (V_assign rfl rfl) ?_
        refine GT_nil ?_
        refine GE_seq ?_
        refine GE_slots (L' := [(0, _), (1, _), (2, _), (7, _), (8, _)]) ⟨rfl, rfl, rfl, rfl, rfl, trivial⟩ ?_
        refine GE_plain (.st 0 (.st 1 (.ld 2 [] (.st 3 (.st 4 (.st 5 (.st 6 (.st 7 .nil)))))))) rfl ?_
        refine GT_st rfl rfl rfl rfl (V_move rfl rfl) ?_
        refine GT_st rfl rfl rfl rfl (V_move rfl rfl) ?_
        refine GT_call0 rfl rfl rfl rfl rfl rfl rfl rfl rn_8 (fun w hw => C_rText (h.sh hw) (hp.sh hw)) (GR_nil) ?_
        refine GT_st rfl rfl rfl rfl (V_move rfl rfl) ?_
        refine GT_st rfl rfl rfl rfl (V_extract rfl rfl rfl) ?_
        refine GT_st rfl rfl rfl rfl (V_extract rfl rfl rfl) ?_
        refine GT_st rfl rfl rfl rfl (V_assign rfl rfl) ?_
        refine GT_st rfl rfl rfl rfl (V_assign rfl rfl) ?_
        refine GT_nil ?_
        refine GE_seq ?_
        refine GE_slots (L' := [(0, _), (2, _), (7, _), (8, _), (9, _), (10, _)]) ⟨rfl, rfl, rfl, rfl, rfl, rfl, trivial⟩ ?_
        refine GE_plain (.st 0 (.st 1 (.ld 2 [] (.st 3 (.st 4 (.st 5 (.st 6 (.st 7 .nil)))))))) rfl ?_
        refine GT_st rfl rfl rfl rfl (V_move rfl rfl) ?_
        refine GT_st rfl rfl rfl rfl (V_move rfl rfl) ?_
        refine GT_call rfl rfl rfl rfl rfl rfl rfl rfl rn_9 (fun w hw => C_Parse (s := s) (E.sh hw) (h.sh hw) (by omega)) (fun _ _ => GR_nil) (fun u hu => ?_)
        refine GT_st rfl rfl rfl rfl (V_move rfl rfl) ?_
        refine GT_st rfl rfl rfl rfl (V_extract rfl rfl rfl) ?_
        refine GT_st rfl rfl rfl rfl (V_extract rfl rfl rfl) ?_
        refine GT_st rfl rfl rfl rfl (V_assign rfl rfl) ?_
        refine GT_st rfl rfl rfl rfl (V_assign rfl rfl) ?_
        refine GT_nil ?_
        refine GE_seq ?_
        refine GE_slots (L' := [(0, _), (2, _), (7, _), (8, _), (9, _), (10, _), (11, _), (12, _)]) ⟨rfl, rfl, rfl, rfl, rfl, rfl, rfl, rfl, trivial⟩ ?_
        refine GE_plain (.st 0 (.st 1 (.ld 2 [] (.st 3 (.st 4 (.st 5 (.st 6 (.st 7 .nil)))))))) rfl ?_
        refine GT_st rfl rfl rfl rfl (V_move rfl rfl) ?_
        refine GT_st rfl rfl rfl rfl (V_move rfl rfl) ?_
        refine GT_call rfl rfl rfl rfl rfl rfl rfl rfl rn_10 (fun w hw => C_rParse (s := s) (h.sh hw) (by omega)) (fun _ _ => GR_nil) (fun v hv => ?_)
        refine GT_st rfl rfl rfl rfl (V_move rfl rfl) ?_
        refine GT_st rfl rfl rfl rfl (V_extract rfl rfl rfl) ?_
        refine GT_st rfl rfl rfl rfl (V_extract rfl rfl rfl) ?_
        refine GT_st rfl rfl rfl rfl (V_assign rfl rfl) ?_
        refine GT_st rfl rfl rfl rfl (V_assign rfl rfl) ?_
        refine GT_nil ?_
        refine GE_seq ?_
        refine GE_slots (L' := [(7, _), (8, _), (9, _), (10, _), (11, _), (12, _), (13, _), (14, _)]) ⟨rfl, rfl, rfl, rfl, rfl, rfl, rfl, rfl, trivial⟩ ?_
        refine GE_plain (.st 0 (.st 1 (.st 2 (.st 3 (.st 4 (.st 5 (.st 6 (.st 7 (.st 8 (.st 9 (.st 10 (.ld 11 [] (.st 12 (.st 13 (.st 14 (.st 15 (.st 16 (.st 17 (.st 18 (.ld 19 [] (.st 20 (.st 21 .nil)))))))))))))))))))))) rfl ?_
        refine GT_st rfl rfl rfl rfl (V_move rfl rfl) ?_
        refine GT_st rfl rfl rfl rfl (V_move rfl rfl) ?_
        refine GT_st rfl rfl rfl rfl (V_isT (V_eqlStr rfl rfl rfl) rfl) ?_
        refine GT_st rfl rfl rfl rfl (V_move rfl rfl) ?_
        refine GT_st_g rfl rfl rfl rfl rfl rfl rfl (V_move rfl rfl) ?_
        refine GT_st_g rfl rfl rfl rfl rfl rfl rfl (V_move rfl rfl) ?_
        refine GT_st_g rfl rfl rfl rfl rfl rfl rfl (V_isT (V_eql rfl rfl rfl) rfl) ?_
        refine GT_st rfl rfl rfl rfl (V_pick_t rfl rfl rfl) ?_
        refine GT_st rfl rfl rfl rfl (V_move rfl rfl) ?_
        refine GT_st_g rfl rfl rfl rfl rfl rfl rfl (V_move rfl rfl) ?_
        refine GT_st_g rfl rfl rfl rfl rfl rfl rfl (V_move rfl rfl) ?_
        refine GT_call0_g rfl rfl rfl rfl rfl rfl rfl rfl rfl rfl rfl rn_11 (fun w hw => C_partsT (pa_eq l s ▸ rfl) (by omega) (hu.rdH ePrt_len hw) (hv.rdH ePrt_len hw)) (GR_nil) ?_
        refine GT_st rfl rfl rfl rfl (V_pick_t rfl rfl rfl) ?_
        refine GT_st rfl rfl rfl rfl (V_move rfl rfl) ?_
        refine GT_st_g rfl rfl rfl rfl rfl rfl rfl (V_move rfl rfl) ?_
        refine GT_st_g rfl rfl rfl rfl rfl rfl rfl (V_move rfl rfl) ?_
        refine GT_st_g rfl rfl rfl rfl rfl rfl rfl (V_isT (V_eql rfl rfl rfl) (by rw [pa_eq])) ?_
        refine GT_st rfl rfl rfl rfl (V_pick_t rfl rfl rfl) ?_
        refine GT_st rfl rfl rfl rfl (V_move rfl rfl) ?_
        refine GT_call0_g rfl rfl rfl rfl rfl rfl rfl rfl rfl rfl rfl rn_6 (fun w hw => C_Works) (GR_nil) ?_
        refine GT_st rfl rfl rfl rfl (V_pick_t rfl rfl rfl) ?_
        refine GT_st rfl rfl rfl rfl (V_assign rfl rfl) ?_
        refine GT_nil ?_
        refine GE_ret Tryz.func3 rfl (fun w hw => ⟨?_, hw.nil⟩)
        rfl
end
end Go.Proofs.YtdcjgjopmicidaaGreatDoor
/- The file of a take, and the take of a file, in plain Lean. -/
namespace Go.Proofs.YtdcjgjopmicidaaGreatDoor
open Go.Sx

/-! ### numbers of two bytes -/
def by8 (n : Int) : UInt8 := UInt8.ofNat (n % 256).toNat
theorem by8_nat (n : Int) : (((by8 n).toNat : Nat) : Int) = n % 256 := by
  unfold by8
  rw [UInt8.toNat_ofNat']
  omega
def two (n : Int) : List UInt8 := [by8 (n / 256), by8 n]
def val2 (x y : UInt8) : Int := 256 * (x.toNat : Int) + y.toNat
theorem val2_two {n : Int} (h : 0 ≤ n ∧ n ≤ 65535) : val2 (by8 (n / 256)) (by8 n) = n := by
  unfold val2; rw [by8_nat, by8_nat]; omega
theorem val2_bd (x y : UInt8) : 0 ≤ val2 x y ∧ val2 x y ≤ 65535 := by
  have h1 := x.toNat_lt; have h2 := y.toNat_lt
  unfold val2; omega
theorem two_len (n : Int) : (two n).length = 2 := rfl

/-! ### the file -/
abbrev TD := ByteArray × List Sam
def sby (s : Sam) : List UInt8 := two (s.l + 32768) ++ two (s.r + 32768)
def add1 (c : Int × Int) (x : UInt8) : Int × Int := ((c.1 + x.toNat) % 65521, (c.2 + (c.1 + x.toNat) % 65521) % 65521)
def adl (c : Int × Int) (l : List UInt8) : Int × Int := l.foldl add1 c
theorem adl_app (c : Int × Int) (l m : List UInt8) : adl c (l ++ m) = adl (adl c l) m := List.foldl_append
def cs0 : Int × Int := (1, 0)
def csIn (c : Int × Int) : Prop := (0 ≤ c.1 ∧ c.1 < 65521) ∧ (0 ≤ c.2 ∧ c.2 < 65521)
theorem csIn0 : csIn cs0 := by unfold csIn cs0; omega
theorem csIn_add {c : Int × Int} {x : UInt8} : csIn (add1 c x) := by unfold csIn add1; dsimp only; omega
theorem csIn_adl {l : List UInt8} : ∀ {c : Int × Int}, csIn c → csIn (adl c l) := by
  induction l with
  | nil => intro c h; exact h
  | cons x l ih => intro c _; exact ih csIn_add
def hd3 (x : TD) : List UInt8 := [84, 75, by8 x.1.size]
def bod (x : TD) : List UInt8 := hd3 x ++ byz x.1 ++ two x.2.length ++ x.2.flatMap sby
def chk (l : List UInt8) : List UInt8 := two (adl cs0 l).2 ++ two (adl cs0 l).1
def pkD (x : TD) : List UInt8 := bod x ++ chk (bod x)
def tkE (x : TD) : Int := tErr ⟨x.1, none, 0, x.2⟩
theorem tkE_eq (t : Tk) : tErr t = tkE (t.name, t.data) := rfl
structure TdOk (x : TD) : Prop where
  most : x.2.length ≤ 4096
  one : 0 < x.2.length
  nm : x.1.size ≤ 20
  each : ∀ s ∈ x.2, s.ok = true
theorem tkE_ok {x : TD} (h : tkE x = 0) : TdOk x := by
  obtain ⟨h1, h2, h3, h4⟩ := tErr_zero.1 h
  refine ⟨h1, h3, ?_, List.all_eq_true.1 h4⟩
  unfold isNm at h2
  rw [Bool.and_eq_true, Bool.and_eq_true, decide_eq_true_iff, decide_eq_true_iff] at h2
  exact h2.1.2
theorem pkD_split (x : TD) : pkD x = hd3 x ++ (byz x.1 ++ (two x.2.length ++ (x.2.flatMap sby ++ chk (bod x)))) := by
  simp only [pkD, bod, List.append_assoc]
theorem chk_len (l : List UInt8) : (chk l).length = 4 := rfl

/-! ### as the program takes it apart -/
def tk1 (r : List UInt8) (n : Nat) : List UInt8 × List UInt8 := if r.length < n then (List.replicate n 0, []) else (r.take n, r.drop n)
def tw (r : List UInt8) : Int := val2 ((tk1 r 2).1.getD 0 default) ((tk1 r 2).1.getD 1 default)
def tr (r : List UInt8) : List UInt8 := (tk1 r 2).2
def dat : Nat → List UInt8 → List Sam
  | 0, _ => []
  | n + 1, r => if r = [] then [] else ⟨tw r - 32768, tw (tr r) - 32768⟩ :: dat n (tr (tr r))
def par1 (b : List UInt8) : TD :=
  (stz (tk1 (tk1 b 3).2 ((tk1 b 3).1.getD 2 default).toNat).1,
   dat (tw (tk1 (tk1 b 3).2 ((tk1 b 3).1.getD 2 default).toNat).2).toNat (tr (tk1 (tk1 b 3).2 ((tk1 b 3).1.getD 2 default).toNat).2))
theorem tk1_len (r : List UInt8) (n : Nat) : (tk1 r n).1.length = n := by
  unfold tk1; split
  · exact List.length_replicate
  · rw [List.length_take]; omega
theorem tk1_le (r : List UInt8) (n : Nat) : (tk1 r n).2.length ≤ r.length := by
  unfold tk1; split
  · exact Nat.zero_le _
  · rw [List.length_drop]; omega
theorem tw_bd (r : List UInt8) : 0 ≤ tw r ∧ tw r ≤ 65535 := val2_bd _ _
theorem tk1_app (a r : List UInt8) {n : Nat} (h : a.length = n) : tk1 (a ++ r) n = (a, r) := by
  unfold tk1
  subst h
  rw [if_neg (by rw [List.length_append]; omega), List.take_left, List.drop_left]
theorem tw_two {n : Int} (h : 0 ≤ n ∧ n ≤ 65535) (r : List UInt8) : tw (two n ++ r) = n := by
  unfold tw; rw [tk1_app _ _ (two_len n)]; exact val2_two h
theorem tr_two (n : Int) (r : List UInt8) : tr (two n ++ r) = r := by
  unfold tr; rw [tk1_app _ _ (two_len n)]
theorem ok_bd {s : Sam} (h : s.ok = true) : (0 ≤ s.l + 32768 ∧ s.l + 32768 ≤ 65535) ∧ (0 ≤ s.r + 32768 ∧ s.r + 32768 ≤ 65535) := by
  have := Sam.ok_iff.1 h; omega
theorem dat_ok {T : List UInt8} (hT : T ≠ []) : ∀ (d : List Sam), (∀ s ∈ d, s.ok = true) → dat d.length (d.flatMap sby ++ T) = d
  | [], _ => rfl
  | s :: d, h => by
    have hb := ok_bd (h s List.mem_cons_self)
    have e : (s :: d).flatMap sby ++ T = two (s.l + 32768) ++ (two (s.r + 32768) ++ (d.flatMap sby ++ T)) := by
      simp only [List.flatMap_cons, sby, List.append_assoc]
    rw [e, List.length_cons, dat, if_neg (by simp [two]), tw_two hb.1, tr_two, tw_two hb.2, tr_two, dat_ok hT d (fun x hx => h x (List.mem_cons_of_mem _ hx))]
    congr 1
    show Sam.mk (s.l + 32768 - 32768) (s.r + 32768 - 32768) = s
    rw [Int.add_sub_cancel, Int.add_sub_cancel]
theorem par1_pk {x : TD} (h : TdOk x) : par1 (pkD x) = x := by
  have hn := h.nm
  have e1 : tk1 (pkD x) 3 = (hd3 x, byz x.1 ++ (two x.2.length ++ (x.2.flatMap sby ++ chk (bod x)))) := by
    rw [pkD_split]; exact tk1_app _ _ rfl
  have e2 : ((hd3 x).getD 2 default).toNat = (byz x.1).length := by
    have : (((by8 x.1.size).toNat : Nat) : Int) = (x.1.size : Int) % 256 := by8_nat _
    show (by8 x.1.size).toNat = _
    rw [byz_len]; omega
  unfold par1
  rw [e1]
  dsimp only
  rw [e2, tk1_app _ _ rfl]
  dsimp only
  have hm := h.most
  rw [tw_two (by omega), tr_two, Int.toNat_natCast, dat_ok (by intro q; have := chk_len (bod x); rw [q] at this; cases this) _ h.each, stz_byz]

/-! ### as the document takes it apart -/
def get2 (b : List UInt8) (i : Nat) : Int := if i + 1 < b.length then val2 (b.getD i default) (b.getD (i + 1) default) else 0
def par2 (b : List UInt8) : TD :=
  (stz ((b.drop 3).take (b.getD 2 default).toNat),
   (List.range (min (get2 b (3 + (b.getD 2 default).toNat)).toNat 5000)).map fun i => ⟨get2 b (3 + (b.getD 2 default).toNat + 2 + 4 * i) - 32768, get2 b (3 + (b.getD 2 default).toNat + 4 + 4 * i) - 32768⟩)
theorem get2_bd (b : List UInt8) (i : Nat) : 0 ≤ get2 b i ∧ get2 b i ≤ 65535 := by
  unfold get2; split
  · exact val2_bd _ _
  · omega
theorem getD_app {p r : List UInt8} {k n : Nat} (h : p.length = n) : (p ++ r).getD (n + k) default = r.getD k default := by
  subst h
  simp [List.getD, List.getElem?_append_right]
theorem get2_app {p r : List UInt8} {k n : Nat} (h : p.length = n) : get2 (p ++ r) (n + k) = get2 r k := by
  unfold get2
  rw [Nat.add_assoc, getD_app h, getD_app h, List.length_append, h]
  by_cases q : k + 1 < r.length
  · rw [if_pos q, if_pos (by omega)]
  · rw [if_neg q, if_neg (by omega)]
theorem get2_two {n : Int} (h : 0 ≤ n ∧ n ≤ 65535) (r : List UInt8) : get2 (two n ++ r) 0 = n := by
  unfold get2
  rw [if_pos (by rw [List.length_append, two_len]; omega)]
  exact val2_two h
theorem get2_flat {T : List UInt8} : ∀ (d : List Sam) (i : Nat), (∀ s ∈ d, s.ok = true) → i < d.length → get2 (d.flatMap sby ++ T) (4 * i) = (d.getD i default).l + 32768 ∧ get2 (d.flatMap sby ++ T) (2 + 4 * i) = (d.getD i default).r + 32768
  | [], i, _, h => by cases h
  | s :: d, 0, h, _ => by
    have hb := ok_bd (h s List.mem_cons_self)
    have e : (s :: d).flatMap sby ++ T = two (s.l + 32768) ++ (two (s.r + 32768) ++ (d.flatMap sby ++ T)) := by
      simp only [List.flatMap_cons, sby, List.append_assoc]
    rw [e]
    exact ⟨get2_two hb.1 _, (get2_app (k := 0) (two_len _)).trans (get2_two hb.2 _)⟩
  | s :: d, i + 1, h, hi => by
    have e : (s :: d).flatMap sby ++ T = sby s ++ (d.flatMap sby ++ T) := by
      simp only [List.flatMap_cons, List.append_assoc]
    have ih := get2_flat (T := T) d i (fun x hx => h x (List.mem_cons_of_mem _ hx)) (by simpa using hi)
    have e1 : 4 * (i + 1) = 4 + 4 * i := by omega
    have e2 : 2 + 4 * (i + 1) = 4 + (2 + 4 * i) := by omega
    rw [e, e2, e1, get2_app (p := sby s) (n := 4) rfl, get2_app (p := sby s) (n := 4) rfl]
    exact ih
theorem par2_pk {x : TD} (h : TdOk x) : par2 (pkD x) = x ∧ 3 + ((pkD x).getD 2 default).toNat ≤ (pkD x).length := by
  have hn := h.nm
  have hm := h.most
  have e2 : ((pkD x).getD 2 default).toNat = (byz x.1).length := by
    have : (((by8 x.1.size).toNat : Nat) : Int) = (x.1.size : Int) % 256 := by8_nat _
    have e : (pkD x).getD 2 default = by8 x.1.size := by rw [pkD_split]; rfl
    rw [e, byz_len]; omega
  have hl : (hd3 x ++ byz x.1).length = 3 + (byz x.1).length := by rw [List.length_append]; rfl
  have e3 : pkD x = (hd3 x ++ byz x.1) ++ (two x.2.length ++ (x.2.flatMap sby ++ chk (bod x))) := by rw [pkD_split, List.append_assoc]
  refine ⟨?_, by rw [e2, e3, List.length_append, hl]; omega⟩
  have g0 : get2 (pkD x) (3 + (byz x.1).length) = x.2.length := by
    rw [e3]
    exact (get2_app (k := 0) hl).trans (get2_two (by omega) _)
  unfold par2
  rw [e2, g0]
  refine Prod.ext ?_ ?_
  · dsimp only
    have : ((pkD x).drop 3).take (byz x.1).length = byz x.1 := by
      rw [pkD_split, show (hd3 x ++ (byz x.1 ++ (two x.2.length ++ (x.2.flatMap sby ++ chk (bod x))))).drop 3 = byz x.1 ++ (two x.2.length ++ (x.2.flatMap sby ++ chk (bod x))) from rfl, List.take_left]
    rw [this, stz_byz]
  · dsimp only
    rw [Int.toNat_natCast, Nat.min_eq_left (by omega)]
    apply List.ext_getElem (by simp)
    intro i h1 h2
    rw [List.getElem_map, List.getElem_range]
    have hi : i < x.2.length := h2
    have hf := get2_flat (T := chk (bod x)) x.2 i h.each hi
    have hp : (hd3 x ++ byz x.1 ++ two x.2.length).length = 3 + (byz x.1).length + 2 := by rw [List.length_append, hl]; rfl
    have e4 : pkD x = (hd3 x ++ byz x.1 ++ two x.2.length) ++ (x.2.flatMap sby ++ chk (bod x)) := by rw [e3]; simp only [List.append_assoc]
    have hg : x.2.getD i default = x.2[i] := by simp [List.getD, hi]
    rw [hg] at hf
    rw [show 3 + (byz x.1).length + 4 + 4 * i = 3 + (byz x.1).length + 2 + (2 + 4 * i) by omega, e4, get2_app hp, get2_app hp, hf.1, hf.2]
    show Sam.mk (x.2[i].l + 32768 - 32768) (x.2[i].r + 32768 - 32768) = x.2[i]
    rw [Int.add_sub_cancel, Int.add_sub_cancel]

/-! ### only what is packed so is a file -/
def td0 : TD := (stz [], [])
def unp (x : TD) (b : List UInt8) : TD × Int := if tkE x = 0 ∧ pkD x = b then (x, 0) else (td0, 8)
def un1 (b : List UInt8) : TD × Int := if 65536 < b.length then (td0, 7) else unp (par1 b) b
def un2 (b : List UInt8) : TD × Int := if 65536 < b.length then (td0, 7) else if b.length < 3 ∨ b.length < 3 + (b.getD 2 default).toNat then (td0, 8) else unp (par2 b) b
theorem un_eq (b : List UInt8) : un1 b = un2 b := by
  unfold un1 un2
  split
  · rfl
  · by_cases h1 : tkE (par1 b) = 0 ∧ pkD (par1 b) = b
    · have ho := tkE_ok h1.1
      obtain ⟨e, hl⟩ := par2_pk ho
      rw [h1.2] at e hl
      rw [if_neg (by omega), e]
    · by_cases h2 : tkE (par2 b) = 0 ∧ pkD (par2 b) = b
      · have ho := tkE_ok h2.1
        have e := par1_pk ho
        rw [h2.2] at e
        rw [e] at h1
        exact absurd h2 h1
      · unfold unp
        rw [if_neg h1, if_neg h2]
        split <;> rfl
end Go.Proofs.YtdcjgjopmicidaaGreatDoor
/- The file of a take: the program's writing, walked. -/
namespace Go.Proofs.YtdcjgjopmicidaaGreatDoor
open Go.Sx Go.Proofs Go.RowKit

section
variable {w w0 : World} {b : Nat} {H1 : Items} {v : Value} {q : Int × Int}
def fcells (q : Int × Int) (v : Value) : List Value := [.int .u32 q.1, .int .u32 q.2, v]
theorem C_add {a s : Int} {x : UInt8} (m : SH w0 none' ((b, blk [.int .u32 a, .int .u32 s, v] 88) :: H1) w) (h : csIn (a, s)) :
    Ret Tryz.prog 59 [ptr b 0, .int .u8 x.toNat].toArray w fun r w' => ∃ y : Int × Int, y = add1 (a, s) x ∧ r = .tuple #[] ∧ SH w0 none' ((b, blk [.int .u32 y.1, .int .u32 y.2, v] 88) :: H1) w' := by
  have hx := x.toNat_lt
  have h1 : (0 ≤ a ∧ a < 65521) ∧ (0 ≤ s ∧ s < 65521) := h
  have e1 : (a + (x.toNat : Int)).tmod 65521 = (a + x.toNat) % 65521 := Int.tmod_eq_emod_of_nonneg (by omega)
  have e2 : (s + (a + (x.toNat : Int)).tmod 65521).tmod 65521 = (s + (a + x.toNat) % 65521) % 65521 := by rw [e1]; exact Int.tmod_eq_emod_of_nonneg (by omega)
  refine Ret_ofH (vs := [_, _]) hm none' Tryz.func59 rfl Tryz.ntmps59 rfl m ?_
  dsimp only [slotsOf]
  refine GE_seq ?_
  refine GE_plain (.st 0 (.st 1 (.st 2 (.st 3 (.st 4 (.st 5 (.st 6 (.st 7 (.st 8 (.st 9 (.st 10 (.ld 11 [] .nil)))))))))))) rfl ?_
  refine GT_st rfl rfl rfl rfl (V_move rfl rfl) ?_
  refine GT_st rfl rfl rfl rfl (V_move rfl rfl) ?_
  first | refine GT_st rfl rfl rfl rfl (V_nilCheck rfl rfl) ?_ | refine GT_st rfl rfl rfl rfl (V_nilCheck_func rfl rfl) ?_ | refine GT_st rfl rfl rfl rfl (V_nilCheck_yield rfl rfl) ?_
  first | refine GT_st rfl rfl rfl rfl (V_field rfl rfl fo_86_0) ?_ | refine GT_st rfl rfl rfl rfl (V_fieldA rfl rfl fo_86_0) ?_
  refine GT_st rfl rfl rfl rfl (V_load rfl rfl ag_84 (CellAt.item rfl)) ?_
  refine GT_st rfl rfl rfl rfl (V_move rfl rfl) ?_
  refine GT_st rfl rfl rfl rfl (V_convII rfl rfl (by rw [Tryz.underlying5]; rfl) Tryz.underlying84 (wrap_u32 (by omega))) ?_
  refine GT_st rfl rfl rfl rfl (V_add rfl rfl rfl (wrap_u32 (by omega))) ?_
  refine GT_st rfl rfl rfl rfl (V_rem rfl rfl rfl (by omega)) ?_
  first | refine GT_st rfl rfl rfl rfl (V_nilCheck rfl rfl) ?_ | refine GT_st rfl rfl rfl rfl (V_nilCheck_func rfl rfl) ?_ | refine GT_st rfl rfl rfl rfl (V_nilCheck_yield rfl rfl) ?_
  first | refine GT_st rfl rfl rfl rfl (V_field rfl rfl fo_86_0) ?_ | refine GT_st rfl rfl rfl rfl (V_fieldA rfl rfl fo_86_0) ?_
  refine GT_store (vs := [_]) (l' := [_, _, _]) rfl rfl rfl rfl rfl rfl rfl sz_84 rfl rfl (Nat.le_of_ble_eq_true rfl) rfl (GR_nil) ?_
  refine GT_nil ?_
  refine GE_slots (L' := [(0, _)]) ⟨rfl, trivial⟩ ?_
  refine GE_drawn (.st 0 (.st 1 (.st 2 (.st 3 (.st 4 (.st 5 (.st 6 (.st 7 (.st 8 (.st 9 (.st 10 (.st 11 (.st 12 (.ld 13 [] .nil)))))))))))))) [13] (by decide +kernel) ?_
  refine GT_st rfl rfl rfl rfl (V_move rfl rfl) ?_
  refine GT_st rfl rfl rfl rfl (V_move rfl rfl) ?_
  first | refine GT_st rfl rfl rfl rfl (V_nilCheck rfl rfl) ?_ | refine GT_st rfl rfl rfl rfl (V_nilCheck_func rfl rfl) ?_ | refine GT_st rfl rfl rfl rfl (V_nilCheck_yield rfl rfl) ?_
  first | refine GT_st rfl rfl rfl rfl (V_field rfl rfl fo_86_1) ?_ | refine GT_st rfl rfl rfl rfl (V_fieldA rfl rfl fo_86_1) ?_
  refine GT_st rfl rfl rfl rfl (V_load rfl rfl ag_84 (CellAt.item rfl)) ?_
  refine GT_st rfl rfl rfl rfl (V_move rfl rfl) ?_
  first | refine GT_st rfl rfl rfl rfl (V_nilCheck rfl rfl) ?_ | refine GT_st rfl rfl rfl rfl (V_nilCheck_func rfl rfl) ?_ | refine GT_st rfl rfl rfl rfl (V_nilCheck_yield rfl rfl) ?_
  first | refine GT_st rfl rfl rfl rfl (V_field rfl rfl fo_86_0) ?_ | refine GT_st rfl rfl rfl rfl (V_fieldA rfl rfl fo_86_0) ?_
  refine GT_st rfl rfl rfl rfl (V_load rfl rfl ag_84 (CellAt.item rfl)) ?_
  refine GT_st rfl rfl rfl rfl (V_add rfl rfl rfl (wrap_u32 (by omega))) ?_
  refine GT_st rfl rfl rfl rfl (V_rem rfl rfl rfl (by omega)) ?_
  first | refine GT_st rfl rfl rfl rfl (V_nilCheck rfl rfl) ?_ | refine GT_st rfl rfl rfl rfl (V_nilCheck_func rfl rfl) ?_ | refine GT_st rfl rfl rfl rfl (V_nilCheck_yield rfl rfl) ?_
  first | refine GT_st rfl rfl rfl rfl (V_field rfl rfl fo_86_1) ?_ | refine GT_st rfl rfl rfl rfl (V_fieldA rfl rfl fo_86_1) ?_
  refine GT_store (vs := [_]) (l' := [_, _, _]) rfl rfl rfl rfl rfl rfl rfl sz_84 rfl rfl (Nat.le_of_ble_eq_true rfl) rfl (GR_nil) ?_
  refine GT_nil ?_
  refine GE_end Tryz.func59 rfl (fun w hw => ?_)
  exact ⟨((a + (x.toNat : Int)).tmod 65521, (s + (a + (x.toNat : Int)).tmod 65521).tmod 65521), by rw [e2, e1]; rfl, rfl, hw⟩
theorem adl_take {q : Int × Int} {l : List UInt8} {j : Nat} (h : j < l.length) : adl q (l.take (j + 1)) = add1 (adl q (l.take j)) (l.getD j default) := by
  have e : l.take (j + 1) = l.take j ++ [l.getD j default] := by
    rw [List.take_add_one, List.getD, List.getElem?_eq_getElem h]; rfl
  rw [e, adl_app]; rfl
theorem wrap_by8 (n : Int) : IntKind.u8.wrap n = ((by8 n).toNat : Int) := by
  rw [by8_nat]
  simp [IntKind.wrap, IntKind.bits, IntKind.signed]
variable {A A' : Option Addr} {c c' : Nat} {J1 : Items} {l bs : List UInt8}
theorem C_write (m : SH w0 none' ((b, blk [.int .u32 q.1, .int .u32 q.2, .slice A' bs.length c'] 88) :: (J1 ++ H1)) w) (hq : csIn q) (hO : Own 1 5 eU bs (.slice A' bs.length c') J1) (hl : ∀ w, SH w0 none' H1 w → RdL w 1 eU A l) (hn : bs.length + l.length ≤ 1000000) :
    Ret Tryz.prog 34 [ptr b 0, .slice A l.length c].toArray w fun r w' => ∃ y : Option Addr × Nat × Items, Own 1 5 eU (bs ++ l) (.slice y.1 (bs ++ l).length y.2.1) y.2.2 ∧ r = .tuple #[] ∧
      SH w0 none' ((b, blk [.int .u32 (adl q l).1, .int .u32 (adl q l).2, .slice y.1 (bs ++ l).length y.2.1] 88) :: (y.2.2 ++ H1)) w' := by
  have hA := hl w (m.hs (C := cx Tryz.prog hm 0 0 w0 none' fun _ _ => True) HS.last)
  refine Ret_ofH (vs := [_, _]) hm none' Tryz.func34 rfl Tryz.ntmps34 rfl m ?_
  dsimp only [slotsOf]
  refine GE_seq ?_
  refine GE_seq ?_
  refine GE_plain (.st 0 (.st 1 (.st 2 .nil))) rfl ?_
  refine GT_st rfl rfl rfl rfl (V_move rfl rfl) ?_
  refine GT_st rfl rfl rfl rfl (V_len rfl Tryz.underlying33 rfl) ?_
  refine GT_st rfl rfl rfl rfl (V_move rfl rfl) ?_
  refine GT_nil ?_
  refine GE_block ?_
  refine GE_to (GE_loop (ι := Nat) (fun j => l.length - j) (fun j => [(0, ptr b 0), (1, .slice A l.length c), (6, .slice A l.length c), (7, I l.length), (8, I j)]) (fun j => (b, blk [.int .u32 (adl q (l.take j)).1, .int .u32 (adl q (l.take j)).2, .slice A' bs.length c'] 88) :: (J1 ++ H1)) (fun j => j ≤ l.length) ?_ 0 ?_) ⟨rfl, rfl, rfl, rfl, rfl, trivial⟩ HS.all
  · intro j hj ih
    refine GE_seq ?_
    refine GE_plain (.st 0 .nil) rfl ?_
    refine GT_st rfl rfl rfl rfl (V_lss rfl rfl rfl) ?_
    refine GT_nil ?_
    refine GE_seq ?_
    first | refine GE_condNot rfl (fun h1 => ?_) (fun h1 => ?_) | refine GE_cond rfl (fun h1 => ?_) (fun h1 => ?_) | refine GE_condNotB rfl (fun h1 => ?_) (fun h1 => ?_) | refine GE_condB rfl (fun h1 => ?_) (fun h1 => ?_)
    · have hjl : j < l.length := (by omega)
      refine GE_skip ?_
      refine GE_seq ?_
      refine GE_block ?_
      refine GE_seq ?_
      refine GE_plain (.st 0 (.st 1 (.st 2 .nil))) rfl ?_
      refine GT_st rfl rfl rfl rfl (V_index rfl rfl rfl Tryz.underlying33 sz_5 (k := j) rfl hjl (hA.isSome hjl)) ?_
      refine GT_st rfl rfl rfl rfl (V_load rfl rfl ag_5 (CellAt.rdH0 (fun w m => hl w (m.hs HS.last)) hjl rfl)) ?_
      refine GT_st rfl rfl rfl rfl (V_assign rfl rfl) ?_
      refine GT_nil ?_
      refine GE_plain (.st 0 (.st 1 (.st 2 (.st 3 (.ld 4 [] .nil))))) rfl ?_
      refine GT_st rfl rfl rfl rfl (V_move rfl rfl) ?_
      first | refine GT_st rfl rfl rfl rfl (V_nilCheck rfl rfl) ?_ | refine GT_st rfl rfl rfl rfl (V_nilCheck_func rfl rfl) ?_ | refine GT_st rfl rfl rfl rfl (V_nilCheck_yield rfl rfl) ?_
      first | refine GT_st rfl rfl rfl rfl (V_field rfl rfl fo_88_0) ?_ | refine GT_st rfl rfl rfl rfl (V_fieldA rfl rfl fo_88_0) ?_
      refine GT_st rfl rfl rfl rfl (V_move rfl rfl) ?_
      refine GT_callX rfl rfl rfl rfl rfl rfl rfl rfl rn_59 (fun w m => C_add m (csIn_adl (c := q) (l := l.take j) hq)) (fun _ _ => GR_nil) (fun y16 hy16 => ?_)
      refine GT_nil ?_
      refine GE_inBlock ?_
      refine GE_slots (L' := [(0, _), (1, _), (6, _), (7, _), (8, _)]) ⟨rfl, rfl, rfl, rfl, rfl, trivial⟩ ?_
      refine GE_plain (.st 0 (.ld 1 [] .nil)) rfl ?_
      refine GT_st rfl rfl rfl rfl (V_add rfl rfl rfl (wrap_i64 (by omega))) ?_
      refine GT_ldv rfl rfl rfl rfl rfl (V_move rfl rfl) (GR_nil) ?_
      refine GT_nil ?_
      rw [← adl_take hjl] at hy16; subst hy16; exact GE_to (ih (j + 1) (by omega) (by omega)) ⟨rfl, rfl, rfl, rfl, rfl, trivial⟩ HS.all
    · skip
      refine GE_exit rfl ?_
      refine GE_slots (L' := [(0, _), (1, _)]) ⟨rfl, rfl, trivial⟩ ?_
      refine GE_plain (.st 0 (.st 1 (.st 2 (.st 3 (.st 4 (.st 5 (.ld 6 [] (.st 7 (.st 8 (.ld 9 [] .nil)))))))))) rfl ?_
      refine GT_st rfl rfl rfl rfl (V_move rfl rfl) ?_
      refine GT_st rfl rfl rfl rfl (V_move rfl rfl) ?_
      first | refine GT_st rfl rfl rfl rfl (V_nilCheck rfl rfl) ?_ | refine GT_st rfl rfl rfl rfl (V_nilCheck_func rfl rfl) ?_ | refine GT_st rfl rfl rfl rfl (V_nilCheck_yield rfl rfl) ?_
      first | refine GT_st rfl rfl rfl rfl (V_field rfl rfl fo_88_1) ?_ | refine GT_st rfl rfl rfl rfl (V_fieldA rfl rfl fo_88_1) ?_
      refine GT_st rfl rfl rfl rfl (V_load rfl rfl ag_33 (CellAt.item rfl)) ?_
      refine GT_st rfl rfl rfl rfl (V_move rfl rfl) ?_
      refine GT_append (enc := eU) (m := l) rfl rfl rfl rfl rfl rfl rfl hO (fun w m => hl w (m.hs HS.last)) Tryz.underlying33 zc_5 sz_5 ⟨rfl, by decide⟩ by_5 ⟨by omega, by omega⟩ eU_len eU_one (fun _ _ _ _ => GR_nil) (fun A2 c2 I2 hO2 => ?_)
      first | refine GT_st rfl rfl rfl rfl (V_nilCheck rfl rfl) ?_ | refine GT_st rfl rfl rfl rfl (V_nilCheck_func rfl rfl) ?_ | refine GT_st rfl rfl rfl rfl (V_nilCheck_yield rfl rfl) ?_
      first | refine GT_st rfl rfl rfl rfl (V_field rfl rfl fo_88_1) ?_ | refine GT_st rfl rfl rfl rfl (V_fieldA rfl rfl fo_88_1) ?_
      refine GT_store (vs := [_]) (l' := [_, _, _]) rfl rfl rfl rfl rfl rfl rfl sz_33 rfl rfl (Nat.le_of_ble_eq_true rfl) rfl (GR_nil) ?_
      refine GT_nil ?_
      refine GE_end Tryz.func34 rfl (fun w hw => ?_)
      exact ⟨(A2, c2, I2), hO2, rfl, by have e := List.take_of_length_le (l := l) (i := j) (by omega); rw [e] at hw; exact hw.hs (C := cx Tryz.prog hm 0 0 w0 none' fun _ _ => True) (HS.cons rfl (HS.chunk HS.last))⟩
  · exact Nat.zero_le _
end
end Go.Proofs.YtdcjgjopmicidaaGreatDoor
/- The file of a take: the program's Pack, walked. -/
namespace Go.Proofs.YtdcjgjopmicidaaGreatDoor
open Go.Sx Go.Proofs Go.RowKit

section
abbrev fblk (bs : List UInt8) (A : Option Addr) (c : Nat) : Obj := blk [.int .u32 (adl cs0 bs).1, .int .u32 (adl cs0 bs).2, .slice A bs.length c] 88
abbrev OwnB (bs : List UInt8) (y : Option Addr × Nat × Items) : Prop := Own 1 5 eU bs (.slice y.1 bs.length y.2.1) y.2.2
variable {w w0 : World} {b : Nat} {H1 : Items} {A A' : Option Addr} {c c' : Nat} {J1 : Items} {l bs : List UInt8}
theorem C_writeF (m : SH w0 none' ((b, fblk bs A' c') :: (J1 ++ H1)) w) (hO : Own 1 5 eU bs (.slice A' bs.length c') J1) (hl : ∀ w, SH w0 none' H1 w → RdL w 1 eU A l) (hn : bs.length + l.length ≤ 1000000) :
    Ret Tryz.prog 34 [ptr b 0, .slice A l.length c].toArray w fun r w' => ∃ y : Option Addr × Nat × Items, OwnB (bs ++ l) y ∧ r = .tuple #[] ∧ SH w0 none' ((b, fblk (bs ++ l) y.1 y.2.1) :: (y.2.2 ++ H1)) w' := by
  refine (C_write (c := c) m (csIn_adl csIn0) hO hl hn).mono ?_
  rintro v w' ⟨y, h1, h2, h3⟩
  exact ⟨y, h1, h2, by rw [← adl_app] at h3; exact h3⟩
theorem C_two {n : Int} (m : SH w0 none' ((b, fblk bs A' c') :: (J1 ++ H1)) w) (hO : Own 1 5 eU bs (.slice A' bs.length c') J1) (hn : bs.length ≤ 900000) :
    Ret Tryz.prog 35 [ptr b 0, I n].toArray w fun r w' => ∃ y : Option Addr × Nat × Items, OwnB (bs ++ two n) y ∧ r = .tuple #[] ∧ SH w0 none' ((b, fblk (bs ++ two n) y.1 y.2.1) :: (y.2.2 ++ H1)) w' := by
  refine Ret_ofH (vs := [_, _]) hm none' Tryz.func35 rfl Tryz.ntmps35 rfl m ?_
  dsimp only [slotsOf]
  refine GE_plain (.st 0 (.st 1 (.st 2 (.st 3 (.st 4 (.st 5 (.ld 6 [] (.ld 7 [] .nil)))))))) rfl ?_
  refine GT_st rfl rfl rfl rfl (V_move rfl rfl) ?_
  refine GT_st rfl rfl rfl rfl (V_move rfl rfl) ?_
  refine GT_st rfl rfl rfl rfl (V_shr (s := 8) (d := 256) rfl rfl rfl (by decide) (by decide)) ?_
  refine GT_st rfl rfl rfl rfl (V_convII rfl rfl (by rw [Tryz.underlying2]; rfl) Tryz.underlying5 (wrap_by8 _)) ?_
  refine GT_st rfl rfl rfl rfl (V_move rfl rfl) ?_
  refine GT_st rfl rfl rfl rfl (V_convII rfl rfl (by rw [Tryz.underlying2]; rfl) Tryz.underlying5 (wrap_by8 _)) ?_
  refine GT_buildSlice (z := [_, _]) rfl rfl rfl rfl rfl Tryz.underlying33 zc_5 sz_5 (by decide) rfl rfl (fun _ => GR_nil) (fun b10 => ?_)
  refine GT_callX rfl rfl rfl rfl rfl rfl rfl rfl rn_34 (fun w m => C_writeF (l := [by8 (n / 256), by8 n]) (m.hs (HS.cons rfl (HS.chunk HS.all))) hO (fun w m => RdL.own' m eU_len) (by simp only [List.length_cons, List.length_nil]; omega)) (fun _ _ => GR_nil) (fun y hy => ?_)
  refine GT_nil ?_
  refine GE_end Tryz.func35 rfl (fun w hw => ?_)
  exact ⟨y, hy, rfl, hw.hs (C := cx Tryz.prog hm 0 0 w0 none' fun _ _ => True) (HS.cons rfl (HS.chunk HS.last))⟩
end

def BK (x : TD) (k : Nat) : List UInt8 := hd3 x ++ byz x.1 ++ two x.2.length ++ (x.2.take k).flatMap sby
theorem BK0 (x : TD) : BK x 0 = hd3 x ++ byz x.1 ++ two x.2.length := by simp [BK]
theorem BK_all {x : TD} {k : Nat} (h : x.2.length ≤ k) : BK x k = bod x := by rw [BK, List.take_of_length_le h]; rfl
theorem BK_succ {x : TD} {k : Nat} (h : k < x.2.length) : BK x (k + 1) = BK x k ++ two ((x.2.getD k default).l + 32768) ++ two ((x.2.getD k default).r + 32768) := by
  have e : x.2.take (k + 1) = x.2.take k ++ [x.2.getD k default] := by
    rw [List.take_add_one, List.getD, List.getElem?_eq_getElem h]; rfl
  simp only [BK, e, List.flatMap_append, List.flatMap_cons, List.flatMap_nil, List.append_nil, sby, List.append_assoc]
theorem sby_len (l : List Sam) : (l.flatMap sby).length = 4 * l.length := by
  induction l with
  | nil => rfl
  | cons x l ih => rw [List.flatMap_cons, List.length_append, ih, List.length_cons]; simp only [sby, List.length_append, two_len]; omega
theorem BK_len {x : TD} (ho : TdOk x) (k : Nat) : (BK x k).length ≤ 20000 := by
  have h1 := ho.most; have h2 := ho.nm
  have h3 : (byz x.1).length = x.1.size := byz_len _
  have h4 : (hd3 x).length = 3 := rfl
  rw [BK, List.length_append, List.length_append, List.length_append, sby_len, List.length_take, h3, h4, two_len]; omega
def chV (q : Int × Int) (k : Nat) : Int := if k = 0 then q.2 else q.1
def chT (q : Int × Int) : Nat → List UInt8
  | 0 => []
  | k + 1 => chT q k ++ two (chV q k)
theorem chT_len (q : Int × Int) : ∀ k, (chT q k).length = 2 * k
  | 0 => rfl
  | k + 1 => by rw [chT, List.length_append, chT_len q k, two_len]; omega
theorem chV_bd {l : List UInt8} {k : Nat} : 0 ≤ chV (adl cs0 l) k ∧ chV (adl cs0 l) k < 65521 := by
  have h := csIn_adl (l := l) csIn0
  unfold csIn at h; unfold chV; split <;> omega
def pkL (x : TD) : List UInt8 := if tkE x = 0 then pkD x else []

set_option maxRecDepth 10000 in
theorem C_Pack {w : World} {t : Tk} (h : RdL w 2 eSam t.A t.data) (hn : t.name.size ≤ maxLen) : Con Tryz.prog 12 [.agg #[.string t.name, .slice t.A t.data.length t.c]] w (fun y : Option Addr × Nat × Items => OwnB (pkL (t.name, t.data)) y)
    (fun y => .tuple #[.slice y.1 (pkL (t.name, t.data)).length y.2.1, I (tErr t)]) (fun y => y.2.2) := by
  refine Ret_of (vs := [_]) hm none' Tryz.func12 rfl Tryz.ntmps12 rfl ?_
  dsimp only [slotsOf]
  refine GE_seq ?_
  refine GE_plain (.ld 0 [] (.st 1 (.st 2 .nil))) rfl ?_
  refine GT_box (z := [_, _]) rfl rfl rfl rfl rfl rfl rfl (fun _ => GR_nil) (fun b1 => ?_)
  refine GT_st rfl rfl rfl rfl (V_assign rfl rfl) ?_
  refine GT_st rfl rfl rfl rfl (V_assign rfl rfl) ?_
  refine GT_nil ?_
  refine GE_seq ?_
  refine GE_seq ?_
  refine GE_plain (.st 0 (.ld 1 [] (.st 2 .nil))) rfl ?_
  refine GT_st rfl rfl rfl rfl (V_loadN (vs := [_, _]) rfl rfl ag_39 sz_39 rfl (CellsAt.item rfl)) ?_
  refine GT_call0 rfl rfl rfl rfl rfl rfl rfl rfl rn_33 (fun w hw => C_checkTake (h.sh hw) hn) (GR_nil) ?_
  refine GT_st rfl rfl rfl rfl (V_assign rfl rfl) ?_
  refine GT_nil ?_
  refine GE_seq ?_
  refine GE_slots (L' := [(1, _), (4, _)]) ⟨rfl, rfl, trivial⟩ ?_
  refine GE_plain (.st 0 (.st 1 .nil)) rfl ?_
  refine GT_st rfl rfl rfl rfl (V_move rfl rfl) ?_
  refine GT_st rfl rfl rfl rfl (V_neq rfl rfl rfl) ?_
  refine GT_nil ?_
  first | refine GE_condNot rfl (fun h1 => ?_) (fun h1 => ?_) | refine GE_cond rfl (fun h1 => ?_) (fun h1 => ?_) | refine GE_condNotB rfl (fun h1 => ?_) (fun h1 => ?_) | refine GE_condB rfl (fun h1 => ?_) (fun h1 => ?_)
  · skip
    refine GE_seq ?_
    refine GE_plain (.st 0 (.st 1 (.st 2 .nil))) rfl ?_
    refine GT_st rfl rfl rfl rfl (V_move rfl rfl) ?_
    refine GT_st rfl rfl rfl rfl (V_assign rfl rfl) ?_
    refine GT_st rfl rfl rfl rfl (V_assign rfl rfl) ?_
    refine GT_nil ?_
    refine GE_ret Tryz.func12 ⟨_, _, rfl, rfl, rfl⟩ (fun w hw => ?_)
    first | (have e : pkL (t.name, t.data) = pkD (t.name, t.data) := if_pos h1; exact ⟨u, by rw [e]; exact hO2, by rw [e, h1]; rfl, hw.hs (C := cx Tryz.prog hm 0 0 _ none' fun _ _ => True) HS.last⟩) | (have e : pkL (t.name, t.data) = [] := if_neg h1; exact ⟨(none, 0, []), by rw [e]; exact Own.nil, by rw [e]; rfl, hw.nil⟩)
  · have ho := tkE_ok (x := (t.name, t.data)) h1; have hm1 : t.data.length ≤ 4096 := ho.most; have hnm : t.name.size ≤ 20 := ho.nm; have hbz : (byz t.name).length = t.name.size := byz_len _
    refine GE_skip ?_
    refine GE_seq ?_
    refine GE_plain (.st 0 (.st 1 (.ld 2 [] (.st 3 .nil)))) rfl ?_
    refine GT_st rfl rfl rfl rfl (V_build (vs := [_, _]) rfl rfl zc_86 pl_86 sa_86 rfl) ?_
    refine GT_st rfl rfl rfl rfl (V_build (vs := [_, _, _]) rfl rfl zc_88 pl_88 sa_88 rfl) ?_
    refine GT_box (z := [_, _, _]) rfl rfl rfl rfl rfl rfl rfl (fun _ => GR_nil) (fun b18 => ?_)
    refine GT_st rfl rfl rfl rfl (V_assign rfl rfl) ?_
    refine GT_nil ?_
    refine GE_seq ?_
    refine GE_slots (L' := [(1, _), (5, _)]) ⟨rfl, rfl, trivial⟩ ?_
    refine GE_plain (.st 0 (.st 1 (.st 2 (.st 3 (.st 4 (.ld 5 [] (.ld 6 [] .nil))))))) rfl ?_
    refine GT_st rfl rfl rfl rfl (V_move rfl rfl) ?_
    first | refine GT_st rfl rfl rfl rfl (V_field rfl rfl fo_39_0) ?_ | refine GT_st rfl rfl rfl rfl (V_fieldA rfl rfl fo_39_0) ?_
    refine GT_st rfl rfl rfl rfl (V_load rfl rfl ag_9 (CellAt.item rfl)) ?_
    refine GT_st rfl rfl rfl rfl (V_len_str rfl Tryz.underlying9 rfl) ?_
    refine GT_st rfl rfl rfl rfl (V_convII rfl rfl (by rw [Tryz.underlying3]; rfl) Tryz.underlying5 (wrap_by8 _)) ?_
    refine GT_buildSlice (z := [_, _, _]) rfl rfl rfl rfl rfl Tryz.underlying33 zc_5 sz_5 (by decide) rfl rfl (fun _ => GR_nil) (fun b24 => ?_)
    refine GT_callX rfl rfl rfl rfl rfl rfl rfl rfl rn_34 (fun w m => C_writeF (l := [84, 75, by8 t.name.size]) (bs := []) (J1 := []) (m.hs (HS.cons rfl HS.all)) Own.nil (fun w m => RdL.own' m eU_len) (by simp only [List.length_cons, List.length_nil]; omega)) (fun _ _ => GR_nil) (fun y25 hy25 => ?_)
    refine GT_nil ?_
    refine GE_seq ?_
    refine GE_slots (L' := [(1, _), (5, _)]) ⟨rfl, rfl, trivial⟩ ?_
    refine GE_plain (.st 0 (.st 1 (.st 2 (.ld 3 [] (.ld 4 [] .nil))))) rfl ?_
    refine GT_st rfl rfl rfl rfl (V_move rfl rfl) ?_
    first | refine GT_st rfl rfl rfl rfl (V_field rfl rfl fo_39_0) ?_ | refine GT_st rfl rfl rfl rfl (V_fieldA rfl rfl fo_39_0) ?_
    refine GT_st rfl rfl rfl rfl (V_load rfl rfl ag_9 (CellAt.item rfl)) ?_
    refine GT_strBytes rfl rfl rfl rfl rfl rfl Tryz.underlying9 Tryz.underlying33 Tryz.underlying5 (fun _ _ _ _ => GR_nil) (fun b29 c29 I29 hI29 => ?_)
    refine GT_callX rfl rfl rfl rfl rfl rfl rfl rfl rn_34 (fun w m => C_writeF (l := byz t.name) (H1 := I29 ++ [(b1, blk [.string t.name, .slice t.A t.data.length t.c] 39)]) (m.hs (HS.cons rfl (HS.chunk (HS.chunk (HS.cons rfl HS.nil))))) hy25 (fun w m => RowB.rd hI29 m) (by rw [hbz]; simp only [List.nil_append, List.length_cons, List.length_nil]; omega)) (fun _ _ => GR_nil) (fun y30 hy30 => ?_)
    refine GT_nil ?_
    refine GE_seq ?_
    refine GE_slots (L' := [(1, _), (5, _)]) ⟨rfl, rfl, trivial⟩ ?_
    refine GE_plain (.st 0 (.st 1 (.st 2 (.st 3 (.ld 4 [] .nil))))) rfl ?_
    refine GT_st rfl rfl rfl rfl (V_move rfl rfl) ?_
    first | refine GT_st rfl rfl rfl rfl (V_field rfl rfl fo_39_1) ?_ | refine GT_st rfl rfl rfl rfl (V_fieldA rfl rfl fo_39_1) ?_
    refine GT_st rfl rfl rfl rfl (V_load rfl rfl ag_37 (CellAt.item rfl)) ?_
    refine GT_st rfl rfl rfl rfl (V_len rfl Tryz.underlying37 rfl) ?_
    refine GT_callX rfl rfl rfl rfl rfl rfl rfl rfl rn_35 (fun w m => C_two (H1 := [(b1, blk [.string t.name, .slice t.A t.data.length t.c] 39)]) (m.hs (HS.cons rfl (HS.chunk (HS.cons rfl HS.nil)))) hy30 (by simp only [List.nil_append, List.length_append, List.length_cons, List.length_nil, hbz]; omega)) (fun _ _ => GR_nil) (fun y35 hy35 => ?_)
    refine GT_nil ?_
    refine GE_seq ?_
    refine GE_seq ?_
    refine GE_slots (L' := [(1, _), (5, _)]) ⟨rfl, rfl, trivial⟩ ?_
    refine GE_plain (.st 0 (.st 1 (.st 2 (.st 3 .nil)))) rfl ?_
    first | refine GT_st rfl rfl rfl rfl (V_field rfl rfl fo_39_1) ?_ | refine GT_st rfl rfl rfl rfl (V_fieldA rfl rfl fo_39_1) ?_
    refine GT_st rfl rfl rfl rfl (V_load rfl rfl ag_37 (CellAt.item rfl)) ?_
    refine GT_st rfl rfl rfl rfl (V_len rfl Tryz.underlying37 rfl) ?_
    refine GT_st rfl rfl rfl rfl (V_move rfl rfl) ?_
    refine GT_nil ?_
    refine GE_block ?_
    refine GE_to (GE_loop (ι := Nat × (Option Addr × Nat × Items)) (fun z => t.data.length - z.1) (fun z => [(5, ptr b18 0), (37, .slice t.A t.data.length t.c), (38, I t.data.length), (39, I z.1)]) (fun z => (b18, fblk (BK (t.name, t.data) z.1) z.2.1 z.2.2.1) :: (z.2.2.2 ++ [(b1, blk [.string t.name, .slice t.A t.data.length t.c] 39)])) (fun z => z.1 ≤ t.data.length ∧ OwnB (BK (t.name, t.data) z.1) z.2) ?_ (0, y35) ?_) ⟨rfl, rfl, rfl, rfl, trivial⟩ (HS.cons (by dsimp only; rw [BK0]; rfl) (HS.chunk HS.all))
    · rintro ⟨k, y⟩ ⟨hk, hO⟩ ih; dsimp only at hk hO ih ⊢; have hbl := BK_len ho k
      refine GE_seq ?_
      refine GE_plain (.st 0 .nil) rfl ?_
      refine GT_st rfl rfl rfl rfl (V_lss rfl rfl rfl) ?_
      refine GT_nil ?_
      refine GE_seq ?_
      first | refine GE_condNot rfl (fun h2 => ?_) (fun h2 => ?_) | refine GE_cond rfl (fun h2 => ?_) (fun h2 => ?_) | refine GE_condNotB rfl (fun h2 => ?_) (fun h2 => ?_) | refine GE_condB rfl (fun h2 => ?_) (fun h2 => ?_)
      · have hkl : k < t.data.length := (by omega); have hok := Sam.ok_iff.1 (ho.each _ (getD_mem (l := t.data) hkl))
        refine GE_skip ?_
        refine GE_seq ?_
        refine GE_block ?_
        refine GE_seq ?_
        refine GE_plain (.st 0 (.st 1 (.ld 2 [] (.ld 3 [] .nil)))) rfl ?_
        refine GT_st rfl rfl rfl rfl (V_index rfl rfl rfl Tryz.underlying37 sz_52 (k := k) rfl hkl (h.isSome hkl)) ?_
        refine GT_st rfl rfl rfl rfl (V_loadN (vs := [_, _]) rfl rfl ag_52 sz_52 rfl (h.ats noM hkl)) ?_
        refine GT_alloc rfl rfl rfl rfl rfl zc_52 (fun _ => GR_nil) (fun b7 => ?_)
        refine GT_store (vs := [_, _]) (l' := [_, _]) rfl rfl rfl rfl rfl rfl rfl sz_52 rfl rfl (Nat.le_of_ble_eq_true rfl) rfl (GR_nil) ?_
        refine GT_nil ?_
        refine GE_seq ?_
        refine GE_plain (.st 0 (.st 1 (.st 2 (.st 3 (.ld 4 [] .nil))))) rfl ?_
        refine GT_st rfl rfl rfl rfl (V_move rfl rfl) ?_
        first | refine GT_st rfl rfl rfl rfl (V_field rfl rfl fo_52_0) ?_ | refine GT_st rfl rfl rfl rfl (V_fieldA rfl rfl fo_52_0) ?_
        refine GT_st rfl rfl rfl rfl (V_load rfl rfl ag_2 (CellAt.item rfl)) ?_
        refine GT_st rfl rfl rfl rfl (V_add rfl rfl rfl (wrap_i64 (by omega))) ?_
        refine GT_callX rfl rfl rfl rfl rfl rfl rfl rfl rn_35 (fun w m => C_two (m.hs (HS.cons rfl (HS.chunk HS.all))) hO (by omega)) (fun _ _ => GR_nil) (fun y47 hy47 => ?_)
        refine GT_nil ?_
        refine GE_slots (L' := [(5, _), (7, _), (37, _), (38, _), (39, _)]) ⟨rfl, rfl, rfl, rfl, rfl, trivial⟩ ?_
        refine GE_plain (.st 0 (.st 1 (.st 2 (.st 3 (.ld 4 [] .nil))))) rfl ?_
        refine GT_st rfl rfl rfl rfl (V_move rfl rfl) ?_
        first | refine GT_st rfl rfl rfl rfl (V_field rfl rfl fo_52_1) ?_ | refine GT_st rfl rfl rfl rfl (V_fieldA rfl rfl fo_52_1) ?_
        refine GT_st rfl rfl rfl rfl (V_load rfl rfl ag_2 (CellAt.item rfl)) ?_
        refine GT_st rfl rfl rfl rfl (V_add rfl rfl rfl (wrap_i64 (by omega))) ?_
        refine GT_callX rfl rfl rfl rfl rfl rfl rfl rfl rn_35 (fun w m => C_two (m.hs (HS.cons rfl (HS.chunk HS.all))) hy47 (by rw [List.length_append, two_len]; omega)) (fun _ _ => GR_nil) (fun y52 hy52 => ?_)
        refine GT_nil ?_
        refine GE_inBlock ?_
        refine GE_slots (L' := [(5, _), (37, _), (38, _), (39, _)]) ⟨rfl, rfl, rfl, rfl, trivial⟩ ?_
        refine GE_plain (.st 0 (.ld 1 [] .nil)) rfl ?_
        refine GT_st rfl rfl rfl rfl (V_add rfl rfl rfl (wrap_i64 (by omega))) ?_
        refine GT_ldv rfl rfl rfl rfl rfl (V_move rfl rfl) (GR_nil) ?_
        refine GT_nil ?_
        have eB := BK_succ (x := (t.name, t.data)) hkl; rw [← eB] at hy52 ⊢; exact GE_to (ih (k + 1, y52) ⟨by dsimp only; omega, hy52⟩ (by dsimp only; omega)) ⟨rfl, rfl, rfl, rfl, trivial⟩ (HS.cons rfl (HS.chunk HS.last))
      · have eA : BK (t.name, t.data) k = bod (t.name, t.data) := BK_all (by dsimp only; omega); rw [eA] at hO hbl ⊢
        refine GE_exit rfl ?_
        refine GE_seq ?_
        refine GE_slots (L' := [(5, _)]) ⟨rfl, trivial⟩ ?_
        refine GE_plain (.st 0 (.st 1 (.st 2 (.st 3 (.ld 4 [] (.ld 5 [] .nil)))))) rfl ?_
        refine GT_st rfl rfl rfl rfl (V_move rfl rfl) ?_
        first | refine GT_st rfl rfl rfl rfl (V_nilCheck rfl rfl) ?_ | refine GT_st rfl rfl rfl rfl (V_nilCheck_func rfl rfl) ?_ | refine GT_st rfl rfl rfl rfl (V_nilCheck_yield rfl rfl) ?_
        first | refine GT_st rfl rfl rfl rfl (V_field rfl rfl fo_88_0) ?_ | refine GT_st rfl rfl rfl rfl (V_fieldA rfl rfl fo_88_0) ?_
        refine GT_st rfl rfl rfl rfl (V_loadN (vs := [_, _]) rfl rfl ag_86 sz_86 rfl (CellsAt.item rfl)) ?_
        refine GT_alloc rfl rfl rfl rfl rfl zc_86 (fun _ => GR_nil) (fun b8 => ?_)
        refine GT_store (vs := [_, _]) (l' := [_, _]) rfl rfl rfl rfl rfl rfl rfl sz_86 rfl rfl (Nat.le_of_ble_eq_true rfl) rfl (GR_nil) ?_
        refine GT_nil ?_
        refine GE_seq ?_
        refine GE_seq ?_
        refine GE_slots (L' := [(5, _), (8, _)]) ⟨rfl, rfl, trivial⟩ ?_
        refine GE_plain (.st 0 (.st 1 (.st 2 (.st 3 (.st 4 (.st 5 .nil)))))) rfl ?_
        first | refine GT_st rfl rfl rfl rfl (V_field rfl rfl fo_86_1) ?_ | refine GT_st rfl rfl rfl rfl (V_fieldA rfl rfl fo_86_1) ?_
        refine GT_st rfl rfl rfl rfl (V_load rfl rfl ag_84 (CellAt.item rfl)) ?_
        first | refine GT_st rfl rfl rfl rfl (V_field rfl rfl fo_86_0) ?_ | refine GT_st rfl rfl rfl rfl (V_fieldA rfl rfl fo_86_0) ?_
        refine GT_st rfl rfl rfl rfl (V_load rfl rfl ag_84 (CellAt.item rfl)) ?_
        refine GT_st rfl rfl rfl rfl (V_build (vs := [_, _]) rfl rfl zc_91 pl_91 sa_91 rfl) ?_
        refine GT_st rfl rfl rfl rfl (V_move rfl rfl) ?_
        refine GT_nil ?_
        refine GE_block ?_
        refine GE_to (GE_loop (ι := Nat × (Option Addr × Nat × Items)) (fun z => 2 - z.1) (fun z => [(5, ptr b18 0), (62, .agg #[.int .u32 (adl cs0 (bod (t.name, t.data))).2, .int .u32 (adl cs0 (bod (t.name, t.data))).1]), (63, I z.1)]) (fun z => (b18, fblk (bod (t.name, t.data) ++ chT (adl cs0 (bod (t.name, t.data))) z.1) z.2.1 z.2.2.1) :: z.2.2.2) (fun z => z.1 ≤ 2 ∧ OwnB (bod (t.name, t.data) ++ chT (adl cs0 (bod (t.name, t.data))) z.1) z.2) ?_ (0, y) ?_) ⟨rfl, rfl, rfl, trivial⟩ (HS.cons (by dsimp only [chT]; rw [List.append_nil]) HS.last)
        · rintro ⟨j, u⟩ ⟨hj, hO2⟩ ih2; dsimp only at hj hO2 ih2 ⊢; have hcl := chT_len (adl cs0 (bod (t.name, t.data))) j
          refine GE_seq ?_
          refine GE_plain (.st 0 .nil) rfl ?_
          refine GT_st rfl rfl rfl rfl (V_lss rfl rfl rfl) ?_
          refine GT_nil ?_
          refine GE_seq ?_
          first | refine GE_condNot rfl (fun h3 => ?_) (fun h3 => ?_) | refine GE_cond rfl (fun h3 => ?_) (fun h3 => ?_) | refine GE_condNotB rfl (fun h3 => ?_) (fun h3 => ?_) | refine GE_condB rfl (fun h3 => ?_) (fun h3 => ?_)
          · have hvb := chV_bd (l := bod (t.name, t.data)) (k := j)
            refine GE_skip ?_
            refine GE_seq ?_
            refine GE_block ?_
            refine GE_seq ?_
            refine GE_plain (.st 0 (.st 1 .nil)) rfl ?_
            refine GT_st rfl rfl rfl rfl (V_indexAgg rfl rfl rfl Tryz.underlying91 ag_84 sz_84 (kk := j) rfl (by omega) (show _ = some (.int .u32 (chV (adl cs0 (bod (t.name, t.data))) j)) by rcases (show j = 0 ∨ j = 1 by omega) with rfl | rfl <;> rfl)) ?_
            refine GT_st rfl rfl rfl rfl (V_assign rfl rfl) ?_
            refine GT_nil ?_
            refine GE_plain (.st 0 (.st 1 (.st 2 (.ld 3 [] .nil)))) rfl ?_
            refine GT_st rfl rfl rfl rfl (V_move rfl rfl) ?_
            refine GT_st rfl rfl rfl rfl (V_move rfl rfl) ?_
            refine GT_st rfl rfl rfl rfl (V_convII rfl rfl (by rw [Tryz.underlying84]; rfl) Tryz.underlying2 (wrap_i64 (by omega))) ?_
            refine GT_callX rfl rfl rfl rfl rfl rfl rfl rfl rn_35 (fun w m => C_two (H1 := []) (m.hs (HS.cons rfl (HS.chunk HS.nil))) hO2 (by rw [List.length_append]; omega)) (fun _ _ => GR_nil) (fun y69 hy69 => ?_)
            refine GT_nil ?_
            refine GE_inBlock ?_
            refine GE_slots (L' := [(5, _), (62, _), (63, _)]) ⟨rfl, rfl, rfl, trivial⟩ ?_
            refine GE_plain (.st 0 (.ld 1 [] .nil)) rfl ?_
            refine GT_st rfl rfl rfl rfl (V_add rfl rfl rfl (wrap_i64 (by omega))) ?_
            refine GT_ldv rfl rfl rfl rfl rfl (V_move rfl rfl) (GR_nil) ?_
            refine GT_nil ?_
            rw [List.append_assoc] at hy69 ⊢; exact GE_to (ih2 (j + 1, y69) ⟨by dsimp only; omega, hy69⟩ (by dsimp only; omega)) ⟨rfl, rfl, rfl, trivial⟩ (HS.cons rfl HS.last)
          · obtain rfl : j = 2 := (by omega)
            refine GE_exit rfl ?_
            refine GE_seq ?_
            refine GE_plain (.st 0 (.st 1 (.st 2 (.st 3 (.st 4 (.st 5 .nil)))))) rfl ?_
            refine GT_st rfl rfl rfl rfl (V_move rfl rfl) ?_
            first | refine GT_st rfl rfl rfl rfl (V_nilCheck rfl rfl) ?_ | refine GT_st rfl rfl rfl rfl (V_nilCheck_func rfl rfl) ?_ | refine GT_st rfl rfl rfl rfl (V_nilCheck_yield rfl rfl) ?_
            first | refine GT_st rfl rfl rfl rfl (V_field rfl rfl fo_88_1) ?_ | refine GT_st rfl rfl rfl rfl (V_fieldA rfl rfl fo_88_1) ?_
            refine GT_st rfl rfl rfl rfl (V_load rfl rfl ag_33 (CellAt.item rfl)) ?_
            refine GT_st rfl rfl rfl rfl (V_assign rfl rfl) ?_
            refine GT_st rfl rfl rfl rfl (V_assign rfl rfl) ?_
            refine GT_nil ?_
            refine GE_ret Tryz.func12 ⟨_, _, rfl, rfl, rfl⟩ (fun w hw => ?_)
            first | (have e : pkL (t.name, t.data) = pkD (t.name, t.data) := if_pos h1; exact ⟨u, by rw [e]; exact hO2, by rw [e, h1]; rfl, hw.hs (C := cx Tryz.prog hm 0 0 _ none' fun _ _ => True) HS.last⟩) | (have e : pkL (t.name, t.data) = [] := if_neg h1; exact ⟨(none, 0, []), by rw [e]; exact Own.nil, by rw [e]; rfl, hw.nil⟩)
        · exact ⟨Nat.zero_le _, by dsimp only [chT]; rw [List.append_nil]; exact hO⟩
    · exact ⟨Nat.zero_le _, by dsimp only; rw [BK0]; exact hy35⟩
end Go.Proofs.YtdcjgjopmicidaaGreatDoor
/- The take of a file: the program's helpers, walked. -/
namespace Go.Proofs.YtdcjgjopmicidaaGreatDoor
open Go.Sx Go.Proofs Go.RowKit

section
variable {w w0 : World} {b4 b5 : Nat} {H1 : Items} {A : Option Addr} {c : Nat} {r : List UInt8}
structure TkRes (w0 : World) (r : List UInt8) (n : Nat) (y : (Option Addr × Nat × Items) × (Option Addr × Nat)) : Prop where
  rd : ∀ w, SH w0 none' y.1.2.2 w → RdL w 1 eU y.1.1 (tk1 r n).1
  some : 0 < n → y.1.1.isSome = true
  rest : RdL w0 1 eU y.2.1 (tk1 r n).2
  cap : (tk1 r n).2.length ≤ y.2.2
theorem C_take {n : Nat} (m : SH w0 none' ((b4, blk [.slice A r.length c] 33) :: H1) w) (hr : RdL w0 1 eU A r) (hc : r.length ≤ c) (hn : n ≤ 1000) (hl : r.length ≤ 1000000) :
    Ret Tryz.prog 36 [I n, ptr b4 0].toArray w fun v w' => ∃ y : (Option Addr × Nat × Items) × (Option Addr × Nat), TkRes w0 r n y ∧ v = .slice y.1.1 (tk1 r n).1.length y.1.2.1 ∧
      SH w0 none' ((b4, blk [.slice y.2.1 (tk1 r n).2.length y.2.2] 33) :: (y.1.2.2 ++ H1)) w' := by
  refine Ret_ofH (vs := [_, _]) hm none' Tryz.func36 rfl Tryz.ntmps36 rfl m ?_
  dsimp only [slotsOf]
  refine GE_seq ?_
  refine GE_plain (.st 0 .nil) rfl ?_
  refine GT_st rfl rfl rfl rfl (V_assign rfl rfl) ?_
  refine GT_nil ?_
  refine GE_seq ?_
  refine GE_seq ?_
  refine GE_plain (.st 0 (.st 1 (.st 2 (.st 3 .nil)))) rfl ?_
  refine GT_st rfl rfl rfl rfl (V_move rfl rfl) ?_
  refine GT_st rfl rfl rfl rfl (V_load rfl rfl ag_33 (CellAt.item rfl)) ?_
  refine GT_st rfl rfl rfl rfl (V_len rfl Tryz.underlying33 rfl) ?_
  refine GT_st rfl rfl rfl rfl (V_gtr rfl rfl rfl) ?_
  refine GT_nil ?_
  first | refine GE_condNot rfl (fun h1 => ?_) (fun h1 => ?_) | refine GE_cond rfl (fun h1 => ?_) (fun h1 => ?_) | refine GE_condNotB rfl (fun h1 => ?_) (fun h1 => ?_) | refine GE_condB rfl (fun h1 => ?_) (fun h1 => ?_)
  · have eT : tk1 r n = (List.replicate n 0, []) := if_pos (by omega)
    refine GE_seq ?_
    refine GE_slots (L' := [(0, _), (1, _)]) ⟨rfl, rfl, trivial⟩ ?_
    refine GE_plain (.ld 0 [] .nil) rfl ?_
    refine GT_store (vs := [_]) (l' := [_]) rfl rfl rfl rfl rfl rfl rfl sz_33 rfl rfl (Nat.le_of_ble_eq_true rfl) rfl (GR_nil) ?_
    refine GT_nil ?_
    refine GE_seq ?_
    refine GE_plain (.st 0 (.ld 1 [] (.st 2 .nil))) rfl ?_
    refine GT_st rfl rfl rfl rfl (V_move rfl rfl) ?_
    refine GT_makeSlice rfl rfl rfl rfl rfl rfl rfl Tryz.underlying33 zc_5 sz_5 by_5 (nn := n) ⟨rfl, rfl, rfl⟩ ⟨by omega, by omega⟩ (fun _ => GR_nil) (fun b10 => ?_)
    refine GT_st rfl rfl rfl rfl (V_assign rfl rfl) ?_
    refine GT_nil ?_
    refine GE_ret Tryz.func36 rfl (fun w hw => ?_)
    rw [eT]; exact ⟨((some ⟨b10, 0, none⟩, n, [(b10, blk ((List.replicate n [.int .u8 0]).flatten) 5)]), (none, 0)), ⟨by rw [eT]; exact fun w m => (Own.made (e := 5) (x := (0 : UInt8)) rfl (by unfold maxLen; omega)).rd eU_len m, fun _ => rfl, by rw [eT]; exact RdL.nil, by rw [eT]; exact Nat.le_refl _⟩, by dsimp only; rw [List.length_replicate], hw.hs (C := cx Tryz.prog hm 0 0 w0 none' fun _ _ => True) (HS.cons rfl (HS.cons rfl HS.all))⟩
  · have eT : tk1 r n = (r.take n, r.drop n) := if_neg (by omega)
    refine GE_skip ?_
    refine GE_seq ?_
    refine GE_slots (L' := [(0, _), (1, _)]) ⟨rfl, rfl, trivial⟩ ?_
    refine GE_plain (.st 0 (.st 1 (.st 2 (.st 3 .nil)))) rfl ?_
    refine GT_st rfl rfl rfl rfl (V_load rfl rfl ag_33 (CellAt.item rfl)) ?_
    refine GT_st rfl rfl rfl rfl (V_move rfl rfl) ?_
    refine GT_st rfl rfl rfl rfl (V_sliceTo rfl rfl rfl Tryz.underlying33 (by rw [sz_5]; rfl) (by omega)) ?_
    refine GT_st rfl rfl rfl rfl (V_assign rfl rfl) ?_
    refine GT_nil ?_
    refine GE_seq ?_
    refine GE_plain (.st 0 (.st 1 (.st 2 (.ld 3 [] .nil)))) rfl ?_
    refine GT_st rfl rfl rfl rfl (V_load rfl rfl ag_33 (CellAt.item rfl)) ?_
    refine GT_st rfl rfl rfl rfl (V_move rfl rfl) ?_
    refine GT_st rfl rfl rfl rfl (V_sliceFrom rfl rfl rfl Tryz.underlying33 sz_5 (by omega)) ?_
    refine GT_store (vs := [_]) (l' := [_]) rfl rfl rfl rfl rfl rfl rfl sz_33 rfl rfl (Nat.le_of_ble_eq_true rfl) rfl (GR_nil) ?_
    refine GT_nil ?_
    refine GE_seq ?_
    refine GE_slots (L' := [(4, _)]) ⟨rfl, trivial⟩ ?_
    refine GE_plain (.st 0 (.st 1 .nil)) rfl ?_
    refine GT_st rfl rfl rfl rfl (V_move rfl rfl) ?_
    refine GT_st rfl rfl rfl rfl (V_assign rfl rfl) ?_
    refine GT_nil ?_
    refine GE_ret Tryz.func36 rfl (fun w hw => ?_)
    rw [eT]; have e1 : (r.take n).length = n := (by rw [List.length_take]; omega); have e2 : (r.drop n).length = r.length - n := List.length_drop; exact ⟨((A, c, []), (slA c n 1 A, c - n)), ⟨by rw [eT]; exact fun w m => (hr.take n).sh m, fun h0 => hr.isSome (k := 0) (by omega), by rw [eT]; exact hr.drop n hc, by rw [eT]; dsimp only; omega⟩, by dsimp only; rw [e1], by dsimp only; rw [e2]; exact hw⟩
theorem C_tw (m : SH w0 none' ((b5, blk [.func (.func 36) #[] #[ptr b4 0]] 92) :: (b4, blk [.slice A r.length c] 33) :: H1) w) (hr : RdL w0 1 eU A r) (hc : r.length ≤ c) (hl : r.length ≤ 1000000) :
    Ret Tryz.prog 37 [ptr b5 0].toArray w fun v w' => ∃ y : Option Addr × Nat, (RdL w0 1 eU y.1 (tr r) ∧ (tr r).length ≤ y.2) ∧ v = I (tw r) ∧
      SH w0 none' ((b5, blk [.func (.func 36) #[] #[ptr b4 0]] 92) :: (b4, blk [.slice y.1 (tr r).length y.2] 33) :: H1) w' := by
  have h0 := ((tk1 r 2).1.getD 0 default).toNat_lt
  have h1 := ((tk1 r 2).1.getD 1 default).toNat_lt
  have hl2 := tk1_len r 2
  refine Ret_ofH (vs := [_]) hm none' Tryz.func37 rfl Tryz.ntmps37 rfl m ?_
  dsimp only [slotsOf]
  refine GE_seq ?_
  refine GE_plain (.st 0 .nil) rfl ?_
  refine GT_st rfl rfl rfl rfl (V_assign rfl rfl) ?_
  refine GT_nil ?_
  refine GE_seq ?_
  refine GE_plain (.st 0 (.ld 1 [] (.st 2 .nil))) rfl ?_
  refine GT_st rfl rfl rfl rfl (V_load rfl rfl ag_92 (CellAt.item rfl)) ?_
  refine GT_callX rfl rfl rfl rfl rfl rfl rfl rfl rn_36 (fun w m => C_take (n := 2) (m.hs (HS.cons rfl HS.all)) hr hc (by decide) hl) (fun _ _ => GR_nil) (fun y hy => ?_)
  refine GT_st rfl rfl rfl rfl (V_assign rfl rfl) ?_
  refine GT_nil ?_
  refine GE_seq ?_
  refine GE_slots (L' := [(2, _)]) ⟨rfl, trivial⟩ ?_
  refine GE_drawn (.st 0 (.st 1 (.st 2 (.st 3 (.st 4 (.st 5 (.st 6 (.st 7 (.st 8 (.st 9 (.st 10 .nil))))))))))) [] (by decide +kernel) ?_
  refine GT_st rfl rfl rfl rfl (V_move rfl rfl) ?_
  refine GT_st rfl rfl rfl rfl (V_index (k := 0) rfl rfl rfl Tryz.underlying33 sz_5 rfl (by rw [hl2]; decide) (hy.some (by decide))) ?_
  refine GT_st rfl rfl rfl rfl (V_load rfl rfl ag_5 (CellAt.rdH0 (fun w m => hy.rd w (m.hs HS.last)) (by rw [hl2]; decide) rfl)) ?_
  refine GT_st rfl rfl rfl rfl (V_convII rfl rfl (by rw [Tryz.underlying5]; rfl) Tryz.underlying2 (wrap_i64 (by omega))) ?_
  refine GT_st rfl rfl rfl rfl (V_shl (s := 8) rfl rfl rfl (by decide) ((wrap_i64 (by omega)).trans (show _ = ((256 * ((tk1 r 2).1.getD 0 default).toNat : Nat) : Int) by omega))) ?_
  refine GT_st rfl rfl rfl rfl (V_move rfl rfl) ?_
  refine GT_st rfl rfl rfl rfl (V_index (k := 1) rfl rfl rfl Tryz.underlying33 sz_5 rfl (by rw [hl2]; decide) (hy.some (by decide))) ?_
  refine GT_st rfl rfl rfl rfl (V_load rfl rfl ag_5 (CellAt.rdH0 (fun w m => hy.rd w (m.hs HS.last)) (by rw [hl2]; decide) rfl)) ?_
  refine GT_st rfl rfl rfl rfl (V_convII rfl rfl (by rw [Tryz.underlying5]; rfl) Tryz.underlying2 (wrap_i64 (by omega))) ?_
  refine GT_st rfl rfl rfl rfl (V_or8 (p := ((tk1 r 2).1.getD 0 default).toNat) (q := ((tk1 r 2).1.getD 1 default).toNat) rfl rfl rfl rfl rfl ⟨h0, h1⟩ rfl) ?_
  refine GT_st rfl rfl rfl rfl (V_assign rfl rfl) ?_
  refine GT_nil ?_
  refine GE_ret Tryz.func37 rfl (fun w hw => ?_)
  exact ⟨y.2, ⟨hy.rest, hy.cap⟩, rfl, hw.hs (C := cx Tryz.prog hm 0 0 w0 none' fun _ _ => True) (HS.cons rfl (HS.cons (by rfl) HS.last))⟩
end
end Go.Proofs.YtdcjgjopmicidaaGreatDoor
/- The take of a file: the program's Unpack, walked. -/
namespace Go.Proofs.YtdcjgjopmicidaaGreatDoor
open Go.Sx Go.Proofs Go.RowKit

def p1b (b : List UInt8) : List UInt8 × List UInt8 := tk1 (tk1 b 3).2 ((tk1 b 3).1.getD 2 default).toNat
theorem par1_eq (b : List UInt8) : par1 b = (stz (p1b b).1, dat (tw (p1b b).2).toNat (tr (p1b b).2)) := rfl
theorem dat_step {n : Nat} {r : List UInt8} (h0 : 0 < n) (hr : r ≠ []) : dat n r = ⟨tw r - 32768, tw (tr r) - 32768⟩ :: dat (n - 1) (tr (tr r)) := by
  obtain ⟨m, rfl⟩ := Nat.exists_eq_succ_of_ne_zero (show n ≠ 0 by omega)
  show dat (m + 1) r = _
  rw [dat, if_neg hr]; rfl
theorem dat_nil (n : Nat) : dat n [] = [] := by
  cases n
  · rfl
  · rw [dat, if_pos rfl]
theorem tr_le (r : List UInt8) : (tr r).length ≤ r.length := tk1_le r 2

section
variable {w : World} {A : Option Addr} {c : Nat} {b : List UInt8}
set_option maxRecDepth 20000 in
set_option maxHeartbeats 2000000 in
theorem C_Unpack (h : RdL w 1 eU A b) (hc : b.length ≤ c) : Con Tryz.prog 13 [.slice A b.length c] w (fun y : Option Addr × Nat × Items => Own 2 52 eSam (un1 b).1.2 (.slice y.1 (un1 b).1.2.length y.2.1) y.2.2)
    (fun y => .tuple #[.agg #[.string (un1 b).1.1, .slice y.1 (un1 b).1.2.length y.2.1], I (un1 b).2]) (fun y => y.2.2) := by
  have hl3 := tk1_len b 3
  have hx8 := ((tk1 b 3).1.getD 2 default).toNat_lt
  have hr1 := tk1_le b 3
  have hr2 : (p1b b).2.length ≤ (tk1 b 3).2.length := tk1_le _ _
  have hnl : (p1b b).1.length = ((tk1 b 3).1.getD 2 default).toNat := tk1_len _ _
  have hr3 := tr_le (p1b b).2
  have hNb := tw_bd (p1b b).2
  refine Ret_of (vs := [_]) hm none' Tryz.func13 rfl Tryz.ntmps13 rfl ?_
  dsimp only [slotsOf]
  refine GE_seq ?_
  refine GE_plain (.ld 0 [] (.st 1 .nil)) rfl ?_
  refine GT_alloc rfl rfl rfl rfl rfl zc_39 (fun _ => GR_nil) (fun b2 => ?_)
  refine GT_st rfl rfl rfl rfl (V_assign rfl rfl) ?_
  refine GT_nil ?_
  refine GE_seq ?_
  refine GE_seq ?_
  refine GE_plain (.st 0 (.st 1 (.st 2 .nil))) rfl ?_
  refine GT_st rfl rfl rfl rfl (V_move rfl rfl) ?_
  refine GT_st rfl rfl rfl rfl (V_len rfl Tryz.underlying33 rfl) ?_
  refine GT_st rfl rfl rfl rfl (V_gtr rfl rfl rfl) ?_
  refine GT_nil ?_
  first | refine GE_condNot rfl (fun h1 => ?_) (fun h1 => ?_) | refine GE_cond rfl (fun h1 => ?_) (fun h1 => ?_) | refine GE_condNotB rfl (fun h1 => ?_) (fun h1 => ?_) | refine GE_condB rfl (fun h1 => ?_) (fun h1 => ?_)
  · skip
    refine GE_seq ?_
    refine GE_slots (L' := [(2, _)]) ⟨rfl, trivial⟩ ?_
    refine GE_plain (.st 0 (.ld 1 [] (.st 2 .nil))) rfl ?_
    refine GT_st rfl rfl rfl rfl (V_build (vs := [_, _]) rfl rfl zc_39 pl_39 sa_39 rfl) ?_
    refine GT_store (vs := [_, _]) (l' := [_, _]) rfl rfl rfl rfl rfl rfl rfl sz_39 rfl rfl (Nat.le_of_ble_eq_true rfl) rfl (GR_nil) ?_
    refine GT_st rfl rfl rfl rfl (V_assign rfl rfl) ?_
    refine GT_nil ?_
    refine GE_ret Tryz.func13 ⟨_, _, ⟨_, rfl, fun w m => run_loadVar_agg (vs := [_, _]) ag_39 sz_39 rfl (fun j v hj => CellsAt.item rfl j v hj w m)⟩, rfl, rfl⟩ (fun w hw => ?_)
    have e : un1 b = (td0, 7) := if_pos (by omega); exact ⟨(none, 0, []), by rw [e]; exact Own.nil, by rw [e] <;> rfl, hw.nil⟩
  · have eU1 : un1 b = unp (par1 b) b := if_neg (by omega)
    refine GE_skip ?_
    refine GE_seq ?_
    refine GE_slots (L' := [(0, _), (2, _)]) ⟨rfl, rfl, trivial⟩ ?_
    refine GE_plain (.st 0 (.ld 1 [] (.ld 2 [] .nil))) rfl ?_
    refine GT_st rfl rfl rfl rfl (V_move rfl rfl) ?_
    refine GT_alloc rfl rfl rfl rfl rfl zc_33 (fun _ => GR_nil) (fun b4 => ?_)
    refine GT_store (vs := [_]) (l' := [_]) rfl rfl rfl rfl rfl rfl rfl sz_33 rfl rfl (Nat.le_of_ble_eq_true rfl) rfl (GR_nil) ?_
    refine GT_nil ?_
    refine GE_seq ?_
    refine GE_plain (.st 0 (.ld 1 [] (.ld 2 [] .nil))) rfl ?_
    refine GT_st rfl rfl rfl rfl (V_makeFunc rfl rfl rfl) ?_
    refine GT_alloc rfl rfl rfl rfl rfl zc_92 (fun _ => GR_nil) (fun b5 => ?_)
    refine GT_store (vs := [_]) (l' := [_]) rfl rfl rfl rfl rfl rfl rfl sz_92 rfl rfl (Nat.le_of_ble_eq_true rfl) rfl (GR_nil) ?_
    refine GT_nil ?_
    refine GE_seq ?_
    refine GE_plain (.st 0 (.st 1 .nil)) rfl ?_
    refine GT_st rfl rfl rfl rfl (V_makeFunc rfl rfl rfl) ?_
    refine GT_st rfl rfl rfl rfl (V_assign rfl rfl) ?_
    refine GT_nil ?_
    refine GE_seq ?_
    refine GE_plain (.ld 0 [] .nil) rfl ?_
    refine GT_alloc rfl rfl rfl rfl rfl zc_39 (fun _ => GR_nil) (fun b7 => ?_)
    refine GT_nil ?_
    refine GE_seq ?_
    refine GE_plain (.st 0 (.ld 1 [] (.st 2 .nil))) rfl ?_
    refine GT_st rfl rfl rfl rfl (V_load rfl rfl ag_92 (CellAt.item rfl)) ?_
    refine GT_callX rfl rfl rfl rfl rfl rfl rfl rfl rn_36 (fun w m => C_take (n := 3) (m.hs (HS.cons rfl HS.all)) h hc (by decide) (by omega)) (fun _ _ => GR_nil) (fun y20 hy20 => ?_)
    refine GT_st rfl rfl rfl rfl (V_assign rfl rfl) ?_
    refine GT_nil ?_
    refine GE_seq ?_
    refine GE_slots (L' := [(0, _), (2, _), (4, _), (5, _), (6, _), (7, _), (8, _)]) ⟨rfl, rfl, rfl, rfl, rfl, rfl, rfl, trivial⟩ ?_
    refine GE_drawn (.st 0 (.st 1 (.st 2 (.st 3 (.st 4 (.ld 5 [] (.ld 6 [] (.st 7 (.ld 8 [] .nil))))))))) [5, 6, 8] (by decide +kernel) ?_
    refine GT_st rfl rfl rfl rfl (V_load rfl rfl ag_92 (CellAt.item rfl)) ?_
    refine GT_st rfl rfl rfl rfl (V_move rfl rfl) ?_
    refine GT_st rfl rfl rfl rfl (V_index (k := 2) rfl rfl rfl Tryz.underlying33 sz_5 rfl (by rw [hl3]; decide) (hy20.some (by decide))) ?_
    refine GT_st rfl rfl rfl rfl (V_load rfl rfl ag_5 (CellAt.rdH0 (fun w m => hy20.rd w (m.hs HS.last)) (by rw [hl3]; decide) rfl)) ?_
    refine GT_st rfl rfl rfl rfl (V_convII rfl rfl (by rw [Tryz.underlying5]; rfl) Tryz.underlying3 (wrap_i64 (by omega))) ?_
    refine GT_callX rfl rfl rfl rfl rfl rfl rfl rfl rn_36 (fun w m => C_take (n := ((tk1 b 3).1.getD 2 default).toNat) (m.hs (HS.cons rfl HS.all)) hy20.rest hy20.cap (by omega) (by omega)) (fun _ _ => GR_nil) (fun y26 hy26 => ?_)
    refine GT_ldv rfl rfl rfl rfl rfl (V_bytesStr rfl rfl Tryz.underlying33 Tryz.underlying5 Tryz.underlying9 (fun w m => hy26.rd w (m.hs HS.last))) (GR_nil) ?_
    first | refine GT_st rfl rfl rfl rfl (V_field rfl rfl fo_39_0) ?_ | refine GT_st rfl rfl rfl rfl (V_fieldA rfl rfl fo_39_0) ?_
    refine GT_store (vs := [_]) (l' := [_, _]) rfl rfl rfl rfl rfl rfl rfl sz_9 rfl rfl (Nat.le_of_ble_eq_true rfl) rfl (GR_nil) ?_
    refine GT_nil ?_
    refine GE_seq ?_
    refine GE_seq ?_
    refine GE_slots (L' := [(0, _), (2, _), (4, _), (6, _), (7, _)]) ⟨rfl, rfl, rfl, rfl, rfl, trivial⟩ ?_
    refine GE_plain (.st 0 (.ld 1 [] (.st 2 .nil))) rfl ?_
    refine GT_st rfl rfl rfl rfl (V_move rfl rfl) ?_
    refine GT_callX rfl rfl rfl rfl rfl rfl rfl rfl rn_37 (fun w m => C_tw (r := (p1b b).2) (m.hs (HS.cons rfl (HS.cons rfl HS.all))) hy26.rest hy26.cap (by omega)) (fun _ _ => GR_nil) (fun y30 hy30 => ?_)
    refine GT_st rfl rfl rfl rfl (V_move rfl rfl) ?_
    refine GT_nil ?_
    refine GE_block ?_
    refine GE_to (GE_loop (ι := Nat × List Sam × (Option Addr × Nat × Items) × List UInt8 × (Option Addr × Nat)) (fun z => (tw (p1b b).2).toNat - z.1) (fun z => [(0, .slice A b.length c), (2, ptr b2 0), (4, ptr b4 0), (6, .func (.func 37) #[] #[ptr b5 0]), (7, ptr b7 0), (30, I (tw (p1b b).2)), (31, I z.1)]) (fun z => (b2, blk [.string .empty, .slice none 0 0] 39) :: (b5, blk [.func (.func 36) #[] #[ptr b4 0]] 92) :: (b4, blk [.slice z.2.2.2.2.1 z.2.2.2.1.length z.2.2.2.2.2] 33) :: (b7, blk [.string (stz (p1b b).1), .slice z.2.2.1.1 z.2.1.length z.2.2.1.2.1] 39) :: z.2.2.1.2.2) (fun z => (z.1 ≤ (tw (p1b b).2).toNat ∧ z.2.1.length ≤ z.1) ∧ Own 2 52 eSam z.2.1 (.slice z.2.2.1.1 z.2.1.length z.2.2.1.2.1) z.2.2.1.2.2 ∧ RdL w 1 eU z.2.2.2.2.1 z.2.2.2.1 ∧ (z.2.2.2.1.length ≤ z.2.2.2.2.2 ∧ z.2.2.2.1.length ≤ 65536) ∧ z.2.1 ++ dat ((tw (p1b b).2).toNat - z.1) z.2.2.2.1 = dat (tw (p1b b).2).toNat (tr (p1b b).2)) ?_ (0, [], (none, 0, []), tr (p1b b).2, y30) ?_) ⟨rfl, rfl, rfl, rfl, rfl, rfl, rfl, trivial⟩ (HS.cons rfl (HS.cons rfl (HS.cons rfl (HS.cons rfl HS.nil))))
    · rintro ⟨k, d, y, r, a, e⟩ ⟨⟨hk, hdl⟩, hO, hr, ⟨hrc, hrl⟩, hd⟩ ih; dsimp only at hk hdl hO hr hrc hrl hd ih ⊢; have hb1 := tw_bd r; have hb2 := tw_bd (tr r); have hl1 := tr_le r; have hl2 := tr_le (tr r)
      refine GE_seq ?_
      refine GE_plain (.st 0 .nil) rfl ?_
      refine GT_st rfl rfl rfl rfl (V_lss rfl rfl rfl) ?_
      refine GT_nil ?_
      refine GE_seq ?_
      first | refine GE_condNot rfl (fun h2 => ?_) (fun h2 => ?_) | refine GE_cond rfl (fun h2 => ?_) (fun h2 => ?_) | refine GE_condNotB rfl (fun h2 => ?_) (fun h2 => ?_) | refine GE_condB rfl (fun h2 => ?_) (fun h2 => ?_)
      · skip
        refine GE_skip ?_
        refine GE_seq ?_
        refine GE_block ?_
        refine GE_seq ?_
        refine GE_seq ?_
        refine GE_plain (.st 0 (.st 1 (.st 2 .nil))) rfl ?_
        refine GT_st rfl rfl rfl rfl (V_load rfl rfl ag_33 (CellAt.item rfl)) ?_
        refine GT_st rfl rfl rfl rfl (V_len rfl Tryz.underlying33 rfl) ?_
        refine GT_st rfl rfl rfl rfl (V_eql rfl rfl rfl) ?_
        refine GT_nil ?_
        first | refine GE_condNot rfl (fun h3 => ?_) (fun h3 => ?_) | refine GE_cond rfl (fun h3 => ?_) (fun h3 => ?_) | refine GE_condNotB rfl (fun h3 => ?_) (fun h3 => ?_) | refine GE_condB rfl (fun h3 => ?_) (fun h3 => ?_)
        · have hd9 : d = dat (tw (p1b b).2).toNat (tr (p1b b).2) := (by rw [show r = [] from List.eq_nil_of_length_eq_zero (by omega), dat_nil, List.append_nil] at hd; exact hd)
          refine GE_exit rfl ?_
          refine GE_seq ?_
          refine GE_seq ?_
          refine GE_slots (L' := [(0, _), (2, _), (7, _)]) ⟨rfl, rfl, rfl, trivial⟩ ?_
          have hp : par1 b = (stz (p1b b).1, d) := (by rw [par1_eq, hd9])
          refine GE_plain (.st 0 (.ld 1 [] (.st 2 (.st 3 (.st 4 (.st 5 (.st 6 .nil))))))) rfl ?_
          refine GT_st rfl rfl rfl rfl (V_loadN (vs := [_, _]) rfl rfl ag_39 sz_39 rfl (CellsAt.item rfl)) ?_
          refine GT_call rfl rfl rfl rfl rfl rfl rfl rfl rn_12 (fun w hw => C_Pack (t := ⟨stz (p1b b).1, y.1, y.2.1, d⟩) (hO.rdH eSam_len hw) (by show (stz (p1b b).1).size ≤ maxLen; rw [← byz_len, byz_stz, hnl]; unfold maxLen; omega)) (fun _ _ => GR_nil) (fun u hu => ?_)
          refine GT_st rfl rfl rfl rfl (V_move rfl rfl) ?_
          refine GT_st rfl rfl rfl rfl (V_extract rfl rfl rfl) ?_
          refine GT_st rfl rfl rfl rfl (V_extract rfl rfl rfl) ?_
          refine GT_st rfl rfl rfl rfl (V_assign rfl rfl) ?_
          refine GT_st rfl rfl rfl rfl (V_assign rfl rfl) ?_
          refine GT_nil ?_
          refine GE_seq ?_
          refine GE_slots (L' := [(0, _), (2, _), (7, _), (10, _), (11, _)]) ⟨rfl, rfl, rfl, rfl, rfl, trivial⟩ ?_
          refine GE_plain (.st 0 (.st 1 (.st 2 (.st 3 (.ld 4 [] (.st 5 (.ld 6 [] (.st 7 (.st 8 .nil))))))))) rfl ?_
          refine GT_st rfl rfl rfl rfl (V_move rfl rfl) ?_
          refine GT_st rfl rfl rfl rfl (V_neq rfl rfl rfl) ?_
          refine GT_st rfl rfl rfl rfl (V_move rfl rfl) ?_
          first | refine GT_splitNot (d := 57) rfl (fun q1 => ?_) (fun q1 => ?_) | refine GT_split (d := 57) rfl (fun q1 => ?_) (fun q1 => ?_) | refine GT_splitNotB (d := 57) rfl (fun q1 => ?_) (fun q1 => ?_) | refine GT_splitB (d := 57) rfl (fun q1 => ?_) (fun q1 => ?_)
          · skip
            refine GT_skip rfl rfl rfl rfl rfl (by decide) rfl rfl ?_
            refine GT_skip_ld rfl rfl rfl rfl rfl (by decide) rfl rfl rfl (GR_nil) ?_
            refine GT_skip rfl rfl rfl rfl rfl (by decide) rfl rfl ?_
            refine GT_skip_ld rfl rfl rfl rfl rfl (by decide) rfl rfl rfl (GR_nil) ?_
            refine GT_skip rfl rfl rfl rfl rfl (by decide) rfl rfl ?_
            refine GT_st rfl rfl rfl rfl (V_pick_t rfl rfl rfl) ?_
            refine GT_nil ?_
            refine GE_cond_t rfl ?_
            refine GE_seq ?_
            refine GE_slots (L' := [(2, _)]) ⟨rfl, trivial⟩ ?_
            refine GE_plain (.st 0 (.ld 1 [] (.st 2 .nil))) rfl ?_
            refine GT_st rfl rfl rfl rfl (V_build (vs := [_, _]) rfl rfl zc_39 pl_39 sa_39 rfl) ?_
            refine GT_store (vs := [_, _]) (l' := [_, _]) rfl rfl rfl rfl rfl rfl rfl sz_39 rfl rfl (Nat.le_of_ble_eq_true rfl) rfl (GR_nil) ?_
            refine GT_st rfl rfl rfl rfl (V_assign rfl rfl) ?_
            refine GT_nil ?_
            refine GE_ret Tryz.func13 ⟨_, _, ⟨_, rfl, fun w m => run_loadVar_agg (vs := [_, _]) ag_39 sz_39 rfl (fun j v hj => CellsAt.item rfl j v hj w m)⟩, rfl, rfl⟩ (fun w hw => ?_)
            have e : un1 b = (td0, 8) := (by rw [eU1, hp]; refine if_neg ?_; rintro ⟨e1, e2⟩; first | exact q1 e1 | (refine q2 ?_; rw [pkL, if_pos (show tkE (stz (p1b b).1, d) = 0 from e1)]; exact congrArg stz e2)); exact ⟨(none, 0, []), by rw [e]; exact Own.nil, by rw [e] <;> rfl, hw.nil⟩
          · skip
            refine GT_st_g rfl rfl rfl rfl rfl rfl rfl (V_move rfl rfl) ?_
            refine GT_ldv_g rfl rfl rfl rfl rfl rfl rfl rfl (V_bytesStr rfl rfl Tryz.underlying33 Tryz.underlying5 Tryz.underlying9 (fun w m => hu.rdH eU_len m)) (GR_nil) ?_
            refine GT_st_g rfl rfl rfl rfl rfl rfl rfl (V_move rfl rfl) ?_
            refine GT_ldv_g rfl rfl rfl rfl rfl rfl rfl rfl (V_bytesStr rfl rfl Tryz.underlying33 Tryz.underlying5 Tryz.underlying9 (fun w m => h.sh m)) (GR_nil) ?_
            refine GT_st_g rfl rfl rfl rfl rfl rfl rfl (V_neqStr rfl rfl rfl) ?_
            refine GT_st rfl rfl rfl rfl (V_pick_f rfl rfl rfl) ?_
            refine GT_nil ?_
            first | refine GE_condNot rfl (fun q2 => ?_) (fun q2 => ?_) | refine GE_cond rfl (fun q2 => ?_) (fun q2 => ?_) | refine GE_condNotB rfl (fun q2 => ?_) (fun q2 => ?_) | refine GE_condB rfl (fun q2 => ?_) (fun q2 => ?_)
            · skip
              refine GE_seq ?_
              refine GE_slots (L' := [(2, _)]) ⟨rfl, trivial⟩ ?_
              refine GE_plain (.st 0 (.ld 1 [] (.st 2 .nil))) rfl ?_
              refine GT_st rfl rfl rfl rfl (V_build (vs := [_, _]) rfl rfl zc_39 pl_39 sa_39 rfl) ?_
              refine GT_store (vs := [_, _]) (l' := [_, _]) rfl rfl rfl rfl rfl rfl rfl sz_39 rfl rfl (Nat.le_of_ble_eq_true rfl) rfl (GR_nil) ?_
              refine GT_st rfl rfl rfl rfl (V_assign rfl rfl) ?_
              refine GT_nil ?_
              refine GE_ret Tryz.func13 ⟨_, _, ⟨_, rfl, fun w m => run_loadVar_agg (vs := [_, _]) ag_39 sz_39 rfl (fun j v hj => CellsAt.item rfl j v hj w m)⟩, rfl, rfl⟩ (fun w hw => ?_)
              have e : un1 b = (td0, 8) := (by rw [eU1, hp]; refine if_neg ?_; rintro ⟨e1, e2⟩; first | exact q1 e1 | (refine q2 ?_; rw [pkL, if_pos (show tkE (stz (p1b b).1, d) = 0 from e1)]; exact congrArg stz e2)); exact ⟨(none, 0, []), by rw [e]; exact Own.nil, by rw [e] <;> rfl, hw.nil⟩
            · skip
              refine GE_skip ?_
              refine GE_seq ?_
              refine GE_slots (L' := [(2, _), (7, _)]) ⟨rfl, rfl, trivial⟩ ?_
              refine GE_plain (.st 0 (.ld 1 [] (.st 2 .nil))) rfl ?_
              refine GT_st rfl rfl rfl rfl (V_loadN (vs := [_, _]) rfl rfl ag_39 sz_39 rfl (CellsAt.item rfl)) ?_
              refine GT_store (vs := [_, _]) (l' := [_, _]) rfl rfl rfl rfl rfl rfl rfl sz_39 rfl rfl (Nat.le_of_ble_eq_true rfl) rfl (GR_nil) ?_
              refine GT_st rfl rfl rfl rfl (V_assign rfl rfl) ?_
              refine GT_nil ?_
              refine GE_ret Tryz.func13 ⟨_, _, ⟨_, rfl, fun w m => run_loadVar_agg (vs := [_, _]) ag_39 sz_39 rfl (fun j v hj => CellsAt.item rfl j v hj w m)⟩, rfl, rfl⟩ (fun w hw => ?_)
              have e : un1 b = ((stz (p1b b).1, d), 0) := (by rw [eU1, hp]; refine if_pos ⟨q1, ?_⟩; have q3 := stz_inj.1 q2; rw [pkL, if_pos (show tkE (stz (p1b b).1, d) = 0 from q1)] at q3; exact q3); exact ⟨y, by rw [e]; exact hO, by rw [e] <;> rfl, hw.hs (C := cx Tryz.prog hm 0 0 _ none' fun _ _ => True) HS.last⟩
        · have hrn : r ≠ [] := (by intro q; rw [q] at h3; exact h3 rfl)
          refine GE_skip ?_
          refine GE_seq ?_
          refine GE_slots (L' := [(0, _), (2, _), (4, _), (6, _), (7, _), (30, _), (31, _)]) ⟨rfl, rfl, rfl, rfl, rfl, rfl, rfl, trivial⟩ ?_
          refine GE_plain (.st 0 (.ld 1 [] (.st 2 .nil))) rfl ?_
          refine GT_st rfl rfl rfl rfl (V_move rfl rfl) ?_
          refine GT_callX rfl rfl rfl rfl rfl rfl rfl rfl rn_37 (fun w m => C_tw (r := r) (m.hs (HS.cons rfl (HS.cons rfl HS.all))) hr hrc (by omega)) (fun _ _ => GR_nil) (fun y37 hy37 => ?_)
          refine GT_st rfl rfl rfl rfl (V_assign rfl rfl) ?_
          refine GT_nil ?_
          refine GE_drawn (.st 0 (.st 1 (.st 2 (.st 3 (.st 4 (.ld 5 [0, 1, 2, 3] (.st 6 (.st 7 (.ld 8 [0, 1] (.ld 9 [] (.st 10 (.ld 11 [] .nil)))))))))))) [5, 8, 9, 11] (by decide +kernel) ?_
          first | refine GT_st rfl rfl rfl rfl (V_field rfl rfl fo_39_1) ?_ | refine GT_st rfl rfl rfl rfl (V_fieldA rfl rfl fo_39_1) ?_
          refine GT_st rfl rfl rfl rfl (V_load rfl rfl ag_37 (CellAt.item rfl)) ?_
          refine GT_st rfl rfl rfl rfl (V_move rfl rfl) ?_
          refine GT_st rfl rfl rfl rfl (V_sub rfl rfl rfl (wrap_i64 (by omega))) ?_
          refine GT_st rfl rfl rfl rfl (V_move rfl rfl) ?_
          refine GT_callX rfl rfl rfl rfl rfl rfl rfl rfl rn_37 (fun w m => C_tw (r := tr r) (m.hs (HS.cons rfl (HS.cons rfl HS.all))) hy37.1 hy37.2 (by omega)) (fun _ _ => GR_cons rfl rfl rfl rfl ((by first | exact V_field rfl rfl fo_39_1 | exact V_fieldA rfl rfl fo_39_1)) (GR_cons rfl rfl rfl rfl (V_load rfl rfl ag_37 (CellAt.item rfl)) (GR_cons rfl rfl rfl rfl (V_move rfl rfl) (GR_cons rfl rfl rfl rfl (V_sub rfl rfl rfl (wrap_i64 (by omega))) (GR_nil))))) (fun y43 hy43 => ?_)
          refine GT_st rfl rfl rfl rfl (V_sub rfl rfl rfl (wrap_i64 (by omega))) ?_
          refine GT_st rfl rfl rfl rfl (V_build (vs := [_, _]) rfl rfl zc_52 pl_52 sa_52 rfl) ?_
          refine GT_buildSlice (z := [_, _]) rfl rfl rfl rfl rfl Tryz.underlying37 zc_52 sz_52 (by decide) rfl rfl (fun _ => GR_cons rfl rfl rfl rfl ((by first | exact V_field rfl rfl fo_39_1 | exact V_fieldA rfl rfl fo_39_1)) (GR_cons rfl rfl rfl rfl (V_load rfl rfl ag_37 (CellAt.item rfl)) (GR_nil))) (fun b46 => ?_)
          refine GT_append (enc := eSam) (m := [⟨tw r - 32768, tw (tr r) - 32768⟩]) rfl rfl rfl rfl rfl rfl rfl hO (fun w m => RdL.own' m eSam_len) Tryz.underlying37 zc_52 sz_52 ⟨rfl, by decide⟩ by_52 ⟨by simp only [List.length_singleton]; omega, by simp only [List.length_singleton]; omega⟩ eSam_len eSam_one (fun _ _ _ _ => GR_nil) (fun A3 c3 I3 hO3 => ?_)
          first | refine GT_st rfl rfl rfl rfl (V_field rfl rfl fo_39_1) ?_ | refine GT_st rfl rfl rfl rfl (V_fieldA rfl rfl fo_39_1) ?_
          refine GT_store (vs := [_]) (l' := [_, _]) rfl rfl rfl rfl rfl rfl rfl sz_37 rfl rfl (Nat.le_of_ble_eq_true rfl) rfl (GR_nil) ?_
          refine GT_nil ?_
          refine GE_inBlock ?_
          refine GE_slots (L' := [(0, _), (2, _), (4, _), (6, _), (7, _), (30, _), (31, _)]) ⟨rfl, rfl, rfl, rfl, rfl, rfl, rfl, trivial⟩ ?_
          refine GE_plain (.st 0 (.ld 1 [] .nil)) rfl ?_
          refine GT_st rfl rfl rfl rfl (V_add rfl rfl rfl (wrap_i64 (by omega))) ?_
          refine GT_ldv rfl rfl rfl rfl rfl (V_move rfl rfl) (GR_nil) ?_
          refine GT_nil ?_
          exact GE_to (ih (k + 1, d ++ [⟨tw r - 32768, tw (tr r) - 32768⟩], (A3, c3, I3), tr (tr r), y43) ⟨⟨by dsimp only; omega, by dsimp only; rw [List.length_append, List.length_singleton]; omega⟩, hO3, hy43.1, ⟨hy43.2, by dsimp only; omega⟩, by dsimp only; rw [← hd, dat_step (by omega) hrn, List.append_assoc, Nat.sub_sub]; rfl⟩ (by dsimp only; omega)) ⟨rfl, rfl, rfl, rfl, rfl, rfl, lookI rfl (by dsimp only; omega), trivial⟩ (HS.cons rfl (HS.cons rfl (HS.cons rfl (HS.cons rfl HS.last))))
      · have hd9 : d = dat (tw (p1b b).2).toNat (tr (p1b b).2) := (by rw [show (tw (p1b b).2).toNat - k = 0 by omega, dat, List.append_nil] at hd; exact hd)
        refine GE_exit rfl ?_
        refine GE_seq ?_
        refine GE_seq ?_
        refine GE_slots (L' := [(0, _), (2, _), (7, _)]) ⟨rfl, rfl, rfl, trivial⟩ ?_
        have hp : par1 b = (stz (p1b b).1, d) := (by rw [par1_eq, hd9])
        refine GE_plain (.st 0 (.ld 1 [] (.st 2 (.st 3 (.st 4 (.st 5 (.st 6 .nil))))))) rfl ?_
        refine GT_st rfl rfl rfl rfl (V_loadN (vs := [_, _]) rfl rfl ag_39 sz_39 rfl (CellsAt.item rfl)) ?_
        refine GT_call rfl rfl rfl rfl rfl rfl rfl rfl rn_12 (fun w hw => C_Pack (t := ⟨stz (p1b b).1, y.1, y.2.1, d⟩) (hO.rdH eSam_len hw) (by show (stz (p1b b).1).size ≤ maxLen; rw [← byz_len, byz_stz, hnl]; unfold maxLen; omega)) (fun _ _ => GR_nil) (fun u hu => ?_)
        refine GT_st rfl rfl rfl rfl (V_move rfl rfl) ?_
        refine GT_st rfl rfl rfl rfl (V_extract rfl rfl rfl) ?_
        refine GT_st rfl rfl rfl rfl (V_extract rfl rfl rfl) ?_
        refine GT_st rfl rfl rfl rfl (V_assign rfl rfl) ?_
        refine GT_st rfl rfl rfl rfl (V_assign rfl rfl) ?_
        refine GT_nil ?_
        refine GE_seq ?_
        refine GE_slots (L' := [(0, _), (2, _), (7, _), (10, _), (11, _)]) ⟨rfl, rfl, rfl, rfl, rfl, trivial⟩ ?_
        refine GE_plain (.st 0 (.st 1 (.st 2 (.st 3 (.ld 4 [] (.st 5 (.ld 6 [] (.st 7 (.st 8 .nil))))))))) rfl ?_
        refine GT_st rfl rfl rfl rfl (V_move rfl rfl) ?_
        refine GT_st rfl rfl rfl rfl (V_neq rfl rfl rfl) ?_
        refine GT_st rfl rfl rfl rfl (V_move rfl rfl) ?_
        first | refine GT_splitNot (d := 57) rfl (fun q1 => ?_) (fun q1 => ?_) | refine GT_split (d := 57) rfl (fun q1 => ?_) (fun q1 => ?_) | refine GT_splitNotB (d := 57) rfl (fun q1 => ?_) (fun q1 => ?_) | refine GT_splitB (d := 57) rfl (fun q1 => ?_) (fun q1 => ?_)
        · skip
          refine GT_skip rfl rfl rfl rfl rfl (by decide) rfl rfl ?_
          refine GT_skip_ld rfl rfl rfl rfl rfl (by decide) rfl rfl rfl (GR_nil) ?_
          refine GT_skip rfl rfl rfl rfl rfl (by decide) rfl rfl ?_
          refine GT_skip_ld rfl rfl rfl rfl rfl (by decide) rfl rfl rfl (GR_nil) ?_
          refine GT_skip rfl rfl rfl rfl rfl (by decide) rfl rfl ?_
          refine GT_st rfl rfl rfl rfl (V_pick_t rfl rfl rfl) ?_
          refine GT_nil ?_
          refine GE_cond_t rfl ?_
          refine GE_seq ?_
          refine GE_slots (L' := [(2, _)]) ⟨rfl, trivial⟩ ?_
          refine GE_plain (.st 0 (.ld 1 [] (.st 2 .nil))) rfl ?_
          refine GT_st rfl rfl rfl rfl (V_build (vs := [_, _]) rfl rfl zc_39 pl_39 sa_39 rfl) ?_
          refine GT_store (vs := [_, _]) (l' := [_, _]) rfl rfl rfl rfl rfl rfl rfl sz_39 rfl rfl (Nat.le_of_ble_eq_true rfl) rfl (GR_nil) ?_
          refine GT_st rfl rfl rfl rfl (V_assign rfl rfl) ?_
          refine GT_nil ?_
          refine GE_ret Tryz.func13 ⟨_, _, ⟨_, rfl, fun w m => run_loadVar_agg (vs := [_, _]) ag_39 sz_39 rfl (fun j v hj => CellsAt.item rfl j v hj w m)⟩, rfl, rfl⟩ (fun w hw => ?_)
          have e : un1 b = (td0, 8) := (by rw [eU1, hp]; refine if_neg ?_; rintro ⟨e1, e2⟩; first | exact q1 e1 | (refine q2 ?_; rw [pkL, if_pos (show tkE (stz (p1b b).1, d) = 0 from e1)]; exact congrArg stz e2)); exact ⟨(none, 0, []), by rw [e]; exact Own.nil, by rw [e] <;> rfl, hw.nil⟩
        · skip
          refine GT_st_g rfl rfl rfl rfl rfl rfl rfl (V_move rfl rfl) ?_
          refine GT_ldv_g rfl rfl rfl rfl rfl rfl rfl rfl (V_bytesStr rfl rfl Tryz.underlying33 Tryz.underlying5 Tryz.underlying9 (fun w m => hu.rdH eU_len m)) (GR_nil) ?_
          refine GT_st_g rfl rfl rfl rfl rfl rfl rfl (V_move rfl rfl) ?_
          refine GT_ldv_g rfl rfl rfl rfl rfl rfl rfl rfl (V_bytesStr rfl rfl Tryz.underlying33 Tryz.underlying5 Tryz.underlying9 (fun w m => h.sh m)) (GR_nil) ?_
          refine GT_st_g rfl rfl rfl rfl rfl rfl rfl (V_neqStr rfl rfl rfl) ?_
          refine GT_st rfl rfl rfl rfl (V_pick_f rfl rfl rfl) ?_
          refine GT_nil ?_
          first | refine GE_condNot rfl (fun q2 => ?_) (fun q2 => ?_) | refine GE_cond rfl (fun q2 => ?_) (fun q2 => ?_) | refine GE_condNotB rfl (fun q2 => ?_) (fun q2 => ?_) | refine GE_condB rfl (fun q2 => ?_) (fun q2 => ?_)
          · skip
            refine GE_seq ?_
            refine GE_slots (L' := [(2, _)]) ⟨rfl, trivial⟩ ?_
            refine GE_plain (.st 0 (.ld 1 [] (.st 2 .nil))) rfl ?_
            refine GT_st rfl rfl rfl rfl (V_build (vs := [_, _]) rfl rfl zc_39 pl_39 sa_39 rfl) ?_
            refine GT_store (vs := [_, _]) (l' := [_, _]) rfl rfl rfl rfl rfl rfl rfl sz_39 rfl rfl (Nat.le_of_ble_eq_true rfl) rfl (GR_nil) ?_
            refine GT_st rfl rfl rfl rfl (V_assign rfl rfl) ?_
            refine GT_nil ?_
            refine GE_ret Tryz.func13 ⟨_, _, ⟨_, rfl, fun w m => run_loadVar_agg (vs := [_, _]) ag_39 sz_39 rfl (fun j v hj => CellsAt.item rfl j v hj w m)⟩, rfl, rfl⟩ (fun w hw => ?_)
            have e : un1 b = (td0, 8) := (by rw [eU1, hp]; refine if_neg ?_; rintro ⟨e1, e2⟩; first | exact q1 e1 | (refine q2 ?_; rw [pkL, if_pos (show tkE (stz (p1b b).1, d) = 0 from e1)]; exact congrArg stz e2)); exact ⟨(none, 0, []), by rw [e]; exact Own.nil, by rw [e] <;> rfl, hw.nil⟩
          · skip
            refine GE_skip ?_
            refine GE_seq ?_
            refine GE_slots (L' := [(2, _), (7, _)]) ⟨rfl, rfl, trivial⟩ ?_
            refine GE_plain (.st 0 (.ld 1 [] (.st 2 .nil))) rfl ?_
            refine GT_st rfl rfl rfl rfl (V_loadN (vs := [_, _]) rfl rfl ag_39 sz_39 rfl (CellsAt.item rfl)) ?_
            refine GT_store (vs := [_, _]) (l' := [_, _]) rfl rfl rfl rfl rfl rfl rfl sz_39 rfl rfl (Nat.le_of_ble_eq_true rfl) rfl (GR_nil) ?_
            refine GT_st rfl rfl rfl rfl (V_assign rfl rfl) ?_
            refine GT_nil ?_
            refine GE_ret Tryz.func13 ⟨_, _, ⟨_, rfl, fun w m => run_loadVar_agg (vs := [_, _]) ag_39 sz_39 rfl (fun j v hj => CellsAt.item rfl j v hj w m)⟩, rfl, rfl⟩ (fun w hw => ?_)
            have e : un1 b = ((stz (p1b b).1, d), 0) := (by rw [eU1, hp]; refine if_pos ⟨q1, ?_⟩; have q3 := stz_inj.1 q2; rw [pkL, if_pos (show tkE (stz (p1b b).1, d) = 0 from q1)] at q3; exact q3); exact ⟨y, by rw [e]; exact hO, by rw [e] <;> rfl, hw.hs (C := cx Tryz.prog hm 0 0 _ none' fun _ _ => True) HS.last⟩
    · exact ⟨⟨Nat.zero_le _, Nat.le_refl _⟩, Own.nil, hy30.1, ⟨hy30.2, by dsimp only; omega⟩, rfl⟩
end
end Go.Proofs.YtdcjgjopmicidaaGreatDoor
