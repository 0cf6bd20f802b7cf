/- Texts of this proof, one behind the other: TdM, TdN, TdH, TdO, TdP, Ug2, Ug3. -/
import Derived.Test.YtpbflnfcgcldkaaGreatDoorMt22
import Derived.Test.YtpbflnfcgcldkaaGreatDoorMt21
import Derived.Lib.LaidTab
import Derived.Lib.AppendIntMem
import Derived.Lib.AtoiErrMem
import Derived.Lib.IndexLaws
import Derived.Test.YtpbflnfcgcldkaaGreatDoorMt16
import Derived.Test.YtpbflnfcgcldkaaGreatDoorMt18
import Derived.Test.YtpbflnfcgcldkaaGreatDoorMt14
/- The library's functions as contracts of this calculus: FormatInt, TrimSuffix, IndexByte, Split, Atoi, Builder.String; what the world says of the library's variables. -/
namespace Go.Proofs.YtpbflnfcgcldkaaGreatDoor.Take
open Go.Sx Go.Proofs Go.RowKit
structure Env (w : World) : Prop where
  tab : Go.Lib.TabIs Tryz.prog w "internal/strconv.uint64pow10" .u64 Go.Lib.pow10Tab
  ml : ∃ m, w.cell? ⟨5, 0, none⟩ = some (.int .i64 m)
  es : ∃ ev, w.cell? ⟨3, 0, none⟩ = some ev ∧ (ev = .nilIface ∨ ∃ te pe, ev = .iface te pe)
  er : ∃ ev, w.cell? ⟨4, 0, none⟩ = some ev ∧ (ev = .nilIface ∨ ∃ te pe, ev = .iface te pe)
theorem cell_sh {w0 w : World} {H : Items} (m : SH w0 none' H w) {g : Nat} {v : Value} (h : w0.cell? ⟨g, 0, none⟩ = some v) : w.cell? ⟨g, 0, none⟩ = some v := by
  have hg := Go.Lib.lt_of_cell h
  have e := m.old g hg (fun q => q)
  unfold World.cell? at h ⊢
  dsimp only at h ⊢
  rw [e]; exact h
theorem Env.sh {w0 w : World} {H : Items} (E : Env w0) (m : SH w0 none' H w) : Env w := by
  obtain ⟨h1, ⟨n, h2⟩, ⟨e3, h3, k3⟩, ⟨e4, h4, k4⟩⟩ := E
  refine ⟨?_, ⟨n, cell_sh m h2⟩, ⟨e3, cell_sh m h3, k3⟩, ⟨e4, cell_sh m h4, k4⟩⟩
  have hg : Tryz.prog.globalNamed "internal/strconv.uint64pow10" = some 2 := by kernel_rfl
  unfold Go.Lib.TabIs World.var? at h1 ⊢
  rw [hg] at h1 ⊢
  simp only [Option.bind_some] at h1 ⊢
  have hlt : 2 < w0.heap.size := by
    rcases Nat.lt_or_ge 2 w0.heap.size with h' | h'
    · exact h'
    · rw [Array.getElem?_eq_none h'] at h1; cases h1
  rw [m.old _ hlt (fun q => q)]
  exact h1
section
variable {w : World} {s : List UInt8}
theorem C_FormatInt {n : Int} (E : Env w) (h : I64 n) : Con0 Tryz.prog 96 [I n, I 10] w (.string (stz (Go.Lib.itoa n))) := by
  refine Calls.mono (Tryz.strconv_FormatInt_10 n h.1 h.2 w E.tab) fun e w' he => ?_
  obtain ⟨rfl, k, os, rfl⟩ := he
  exact ⟨rfl, SH.ofBelow (Go.Lib.below_grow _ w (Nat.le_refl _) k os)⟩
theorem C_TrimSuffix (hs : s.length ≤ 100000) : Con0 Tryz.prog 106 [.string (stz s), .string ⟨#[10]⟩] w (.string (stz (Go.Lib.trimSuffix s [10]))) := by
  refine Calls.mono (Tryz.strings_TrimSuffix (stz s) ⟨#[10]⟩ w (by rw [stz_size]; omega)) fun e w' he => ?_
  obtain ⟨rfl, rfl⟩ := he
  exact ⟨rfl, SH.refl _ _⟩
theorem C_IndexByte : Con0 Tryz.prog 160 [.string (stz s), .int .u8 10] w (I (Go.Lib.indexByte s 10)) := by
  refine Calls.mono (Tryz.strings_IndexByte (stz s) 10 w) fun e w' he => ?_
  obtain ⟨rfl, rfl⟩ := he
  exact ⟨rfl, SH.refl _ _⟩
theorem C_Atoi (E : Env w) (hs : s.length ≤ 100000) : Con Tryz.prog 107 [.string (stz s)] w (fun _ : Value => True) (fun er => .tuple #[I (atv s), er]) (fun _ => []) := by
  have hsz := stz_size s
  cases h : Go.Lib.atoiAll s with
  | ok v =>
    have e : atv s = v := by rw [atv, h]
    refine Calls.mono (Tryz.strconv_Atoi_ok (stz s) (by omega) v h w) fun e w' he => ?_
    obtain ⟨rfl, hb⟩ := he
    rw [e]
    refine ⟨_, trivial, rfl, ?_⟩
    rcases hb with rfl | ⟨t, rfl⟩
    · exact SH.refl _ _
    · exact SH.ofBelow (Go.Lib.bytesWorld_below _ _ _)
  | range =>
    have e : atv s = Go.Lib.atoiSat s := by rw [atv, h]
    obtain ⟨ev, h1, h2⟩ := E.er
    refine Calls.mono (Tryz.strconv_Atoi_range (stz s) (by omega) h ev w h1 h2) fun e w' he => ?_
    obtain ⟨N, rfl, _, _, hb⟩ := he
    rw [e]
    exact ⟨_, trivial, rfl, SH.ofBelow hb⟩
  | _ =>
    have e : atv s = 0 := by rw [atv, h]
    obtain ⟨ev, h1, h2⟩ := E.es
    refine Calls.mono (Tryz.strconv_Atoi_bad (stz s) (by omega) ⟨fun q => (by have h3 := h.symm.trans q; cases h3), fun v q => (by have h3 := h.symm.trans q; cases h3)⟩ ev w h1 h2) fun e w' he => ?_
    obtain ⟨N, rfl, _, _, hb⟩ := he
    rw [e]
    exact ⟨_, trivial, rfl, SH.ofBelow hb⟩
theorem pcs_len (c : UInt8) : ∀ s : List UInt8, (pcs c s).length = s.count c + 1
  | [] => rfl
  | x :: r => by
    have ih := pcs_len c r
    rw [pcs]
    by_cases h : x = c
    · rw [if_pos h, h, List.count_cons_self, List.length_cons, ih]
    · have e : (x :: r).count c = r.count c := by rw [List.count_cons]; simp [h]
      rw [if_neg h, List.length_cons, List.length_tail, ih, e]; omega
theorem C_Split (E : Env w) (hs : s.length ≤ 100000) : Con Tryz.prog 105 [.string (stz s), .string ⟨#[32]⟩] w (fun y : Option Addr × Nat × Items => Own 1 9 eB (pcs 32 s) (.slice y.1 (pcs 32 s).length y.2.1) y.2.2) (fun y => .slice y.1 (pcs 32 s).length y.2.1) (fun y => y.2.2) := by
  have hsz := stz_size s
  obtain ⟨m, hm⟩ := E.ml
  have hc : Go.Lib.countB (stz s) ⟨#[32]⟩ + 1 = (pcs 32 s).length := by rw [pcs_len]; exact congrArg (· + 1) (Go.Lib.count_one 32 s)
  have hl : (pcs 32 s).length ≤ 100001 := by
    rw [pcs_len]; have := List.count_le_length (a := (32 : UInt8)) (l := s); omega
  refine Calls.mono (Tryz.strings_Split (stz s) ⟨#[32]⟩ m w (by omega) hm (by decide)) fun e w' he => ?_
  obtain ⟨rfl, rfl⟩ := he
  rw [hc]
  have e1 : (Go.Lib.splitB ⟨#[32]⟩ 0 (Go.Lib.countB (stz s) ⟨#[32]⟩) (stz s)).map Value.string = (pcs 32 s).flatMap eB := by
    rw [splitB_pcs, byz_stz, List.map_map]
    induction pcs 32 s with
    | nil => rfl
    | cons x r ih => rw [List.map_cons, List.flatMap_cons, ih]; rfl
  rw [e1]
  refine ⟨(some ⟨w.heap.size, 0, none⟩, (pcs 32 s).length, [(w.heap.size, blk ((pcs 32 s).flatMap eB ++ []) 9)]), ?_, rfl, ?_⟩
  · exact .inr ⟨w.heap.size, (pcs 32 s).length, [], rfl, rfl, by simp, Nat.le_refl _, by unfold maxLen; omega⟩
  · rw [List.append_nil]; exact SH.alloc (SH.refl w none') _
variable {w0 : World} {b : Nat} {H1 J1 : Items} {p : Bool} {A : Option Addr} {c : Nat} {bs : List UInt8}
theorem own_base {w : World} (m : SH w0 none' (J1 ++ H1) w) (hO : Own 1 5 eU bs (.slice A bs.length c) J1) : w.ownsRow w0.heap.size 5 1 (.slice A bs.length c) bs.length (Go.Lib.byteCells bs) := by
  have hb : ∀ l : List UInt8, Go.Lib.byteCells l = l.flatMap eU := fun l => by
    induction l with
    | nil => rfl
    | cons x r ih => rw [List.flatMap_cons, ← ih]; rfl
  have hr := own_row m hO eU_len
  rw [← hb] at hr
  obtain ⟨h1, h2⟩ := hr
  refine ⟨h1, ?_⟩
  rcases h2 with h2 | ⟨g, cap, cur, e1, e2, e3, e4⟩
  · exact .inl h2
  · refine .inr ⟨g, cap, cur, e1, ?_, e3, e4⟩
    rcases hO with ⟨q1, _, _⟩ | ⟨g', c', rest, q1, q2, _⟩
    · rw [q1] at e1; cases e1
    · rw [q1] at e1
      injection e1 with e1
      injection e1 with e1
      injection e1 with e1
      subst e1
      have := (m.item (g', _) (by rw [q2]; exact List.mem_append_left _ (List.mem_singleton.2 rfl))).1
      exact this.resolve_right (fun q => q)
theorem C_String (m : SH w0 none' ((b, blk [bptr p b, .slice A bs.length c] 223) :: (J1 ++ H1)) w) (hO : Own 1 5 eU bs (.slice A bs.length c) J1) :
    Ret Tryz.prog 98 [ptr b 0].toArray w fun r w' => ∃ _ : Unit, True ∧ r = .string (stz bs) ∧ SH w0 none' [] w' := by
  have hi := m.item (b, _) List.mem_cons_self
  have hB : w0.heap.size ≤ b := hi.1.resolve_right (fun q => q)
  have hrow := own_base (J1 := J1) (H1 := H1) (m.hs (C := cx Tryz.prog hm 0 0 w0 none' fun _ _ => True) (HS.chunk (I := J1) (HS.last (I := H1)))) hO
  have hne : (Value.slice A bs.length c).ownBlock ≠ some b := by
    rcases hO with ⟨q1, _, _⟩ | ⟨g', c', rest, q1, q2, _⟩
    · rw [q1]; intro q; cases q
    · rw [q1]
      intro q
      injection q with q
      have hnd := m.nd
      rw [q2] at hnd
      simp only [List.map_cons, List.singleton_append, List.nodup_cons] at hnd
      exact hnd.1 (by rw [← q]; exact List.mem_cons_self)
  have hI : Go.Lib.IsBuilder 223 5 w0.heap.size b (Go.Lib.byteCells bs) w := by
    have hl : (Go.Lib.byteCells bs).length = bs.length := by simp [Go.Lib.byteCells]
    cases p with
    | false => exact .inl ⟨hB, _, hi.2, by rw [hl]; exact hrow, hne⟩
    | true => exact .inr ⟨hB, _, hi.2, by rw [hl]; exact hrow, hne⟩
  refine Calls.mono (Tryz.Builder_String_any w0.heap.size b bs w hI m.size) fun e w' he => ?_
  obtain ⟨rfl, hb⟩ := he
  exact ⟨(), trivial, rfl, ⟨hb.os.trans m.os, hb.tape.trans m.tape, hb.output.trans m.output, Nat.le_trans m.size hb.size, fun k hk hM => (hb.block k hk).trans (m.old k hk hM), by simp, by simp⟩⟩
end
end Go.Proofs.YtpbflnfcgcldkaaGreatDoor.Take
/- The program's Text, walked. -/
namespace Go.Proofs.YtpbflnfcgcldkaaGreatDoor.Take
open Go.Sx Go.Proofs Go.RowKit
theorem byz_app (a b : ByteArray) : byz (a ++ b) = byz a ++ byz b := by
  rw [← stz_byz a, ← stz_byz b, stz_app, byz_stz, byz_stz, byz_stz]
theorem byz_sp (d : List UInt8) : byz ((⟨#[32]⟩ : ByteArray) ++ stz d) = 32 :: d := by rw [byz_app, byz_stz]; rfl
theorem byz_part (b : ByteArray) : byz ((⟨#[112, 97, 114, 116, 32]⟩ : ByteArray) ++ b) = part5 ++ 32 :: byz b := by rw [byz_app]; rfl
section
variable {w : World} {A A2 : Option Addr} {c c2 : Nat} {l : List Tk} {p : List Prt}
set_option maxRecDepth 20000 in
set_option maxHeartbeats 2000000 in
theorem C_Text (E : Env w) (h : Tks w A l) (hp : RdL w 7 ePrt A2 p) : Con0 Tryz.prog 41 [.slice A l.length c, .slice A2 p.length c2] w (.tuple #[.string (stz (txt l p)), I (gErr l p)]) := by
  refine Ret_of (vs := [_, _]) hm none' Tryz.func41 rfl Tryz.ntmps41 rfl ?_
  dsimp only [slotsOf]
  refine GE_seq ?_;refine GE_plain (.st 0 (.st 1 .nil)) rfl ?_;refine GT_st rfl rfl rfl rfl (V_assign rfl rfl) ?_;refine GT_st rfl rfl rfl rfl (V_assign rfl rfl) ?_;refine GT_nil ?_;refine GE_seq ?_;refine GE_seq ?_;refine GE_plain (.st 0 (.st 1 (.ld 2 [] (.st 3 .nil)))) rfl ?_;refine GT_st rfl rfl rfl rfl (V_move rfl rfl) ?_;refine GT_st rfl rfl rfl rfl (V_move rfl rfl) ?_;refine GT_call0 rfl rfl rfl rfl rfl rfl rfl rfl rn_94 (fun w hw => C_CheckProgramme (h.sh hw) (hp.sh hw)) (GR_nil) ?_;refine GT_st rfl rfl rfl rfl (V_assign rfl rfl) ?_;refine GT_nil ?_;refine GE_seq ?_;refine GE_slots (L' := [(0, _), (1, _), (6, _)]) ⟨rfl, rfl, rfl, trivial⟩ ?_;refine GE_plain (.st 0 (.st 1 .nil)) rfl ?_;refine GT_st rfl rfl rfl rfl (V_move rfl rfl) ?_;refine GT_st rfl rfl rfl rfl (V_neq rfl rfl rfl) ?_;refine GT_nil ?_;refine GE_condNot rfl (fun q1 => ?_) (fun q1 => ?_)
  · refine GE_seq ?_;refine GE_slots (L' := [(6, _)]) ⟨rfl, trivial⟩ ?_;refine GE_plain (.st 0 (.st 1 (.st 2 .nil))) rfl ?_;refine GT_st rfl rfl rfl rfl (V_move rfl rfl) ?_;refine GT_st rfl rfl rfl rfl (V_assign rfl rfl) ?_;refine GT_st rfl rfl rfl rfl (V_assign rfl rfl) ?_;refine GT_nil ?_;refine GE_ret Tryz.func41 ⟨_, _, rfl, rfl, rfl⟩ (fun w hw => ⟨?_, hw.nil⟩)
    rw [txt, if_neg q1] <;> rfl
  · have hg : gErr l p = 0 := (by omega); obtain ⟨hl, hn, he⟩ := prog_each hg
    refine GE_skip ?_;refine GE_seq ?_;refine GE_plain (.ld 0 [] .nil) rfl ?_;refine GT_alloc rfl rfl rfl rfl rfl zc_223 (fun _ => GR_nil) (fun b7 => ?_)
    refine GT_nil ?_;refine GE_seq ?_;refine GE_seq ?_;refine GE_plain (.st 0 (.st 1 (.st 2 .nil))) rfl ?_;refine GT_st rfl rfl rfl rfl (V_move rfl rfl) ?_;refine GT_st rfl rfl rfl rfl (V_len rfl Tryz.underlying108 rfl) ?_;refine GT_st rfl rfl rfl rfl (V_move rfl rfl) ?_;refine GT_nil ?_;refine GE_block ?_;refine GE_to (GE_loop (ι := Nat × Bool × List UInt8 × (Option Addr × Nat × Items)) (fun z => p.length - z.1) (fun z => [(0, .slice A l.length c), (7, ptr b7 0), (18, .slice A2 p.length c2), (19, I p.length), (20, I z.1)]) (fun z => (b7, blk [bptr z.2.1 b7, .slice z.2.2.2.1 z.2.2.1.length z.2.2.2.2.1] 223) :: z.2.2.2.2.2) (fun z => z.1 ≤ p.length ∧ z.2.2.1 = tx l (p.take z.1) ∧ Own 1 5 eU z.2.2.1 (.slice z.2.2.2.1 z.2.2.1.length z.2.2.2.2.1) z.2.2.2.2.2) ?_ (0, false, [], (none, 0, [])) ?_) ⟨rfl, rfl, rfl, rfl, rfl, trivial⟩ (HS.cons rfl HS.nil)
    · rintro ⟨k, pb, bs, y⟩ ⟨hk, hbs, hO⟩ ih; dsimp only at hk hbs hO ih ⊢; have htl := tx_take_le hg k; rw [← hbs] at htl
      refine GE_seq ?_;refine GE_plain (.st 0 .nil) rfl ?_;refine GT_st rfl rfl rfl rfl (V_lss rfl rfl rfl) ?_;refine GT_nil ?_;refine GE_seq ?_;refine GE_cond rfl (fun q2 => ?_) (fun q2 => ?_)
      · have hkl : k < p.length := (by omega); have hpk : PrtOk l (pt p k) := he _ (getD_mem hkl); have h0 := hpk.tk0; have hkk : (pt p k).tk.toNat < l.length := (by have := hpk.tk1; omega); have hnm := nm_size (name_ok hl hpk); have hbs0 := nums_bd (bd_small hl hpk)
        refine GE_skip ?_;refine GE_seq ?_;refine GE_block ?_;refine GE_seq ?_;refine GE_plain (.st 0 (.st 1 (.ld 2 [] (.ld 3 [] .nil)))) rfl ?_;refine GT_st rfl rfl rfl rfl (V_index rfl rfl rfl Tryz.underlying108 sz_124 (k := k) rfl hkl (hp.isSome hkl)) ?_;refine GT_st rfl rfl rfl rfl (V_loadN (vs := [_, _, _, _, _, _, _]) rfl rfl ag_124 sz_124 rfl (show CellsAt _ _ _ (ePrt (pt p k)) from hp.ats noM hkl)) ?_;refine GT_alloc rfl rfl rfl rfl rfl zc_124 (fun _ => GR_nil) (fun b9 => ?_)
        refine GT_store (vs := [_, _, _, _, _, _, _]) (l' := [_, _, _, _, _, _, _]) rfl rfl rfl rfl rfl rfl rfl sz_124 rfl rfl (Nat.le_of_ble_eq_true rfl) rfl (GR_nil) ?_;refine GT_nil ?_;refine GE_seq ?_;refine GE_plain (.st 0 (.st 1 (.st 2 (.st 3 (.st 4 (.st 5 (.st 6 (.ld 7 [] .nil)))))))) rfl ?_;refine GT_st rfl rfl rfl rfl (V_move rfl rfl) ?_;refine GT_st rfl rfl rfl rfl (V_field rfl rfl fo_124_0) ?_;refine GT_st rfl rfl rfl rfl (V_load rfl rfl ag_3 (CellAt.item rfl)) ?_;refine GT_st rfl rfl rfl rfl (V_index rfl rfl rfl Tryz.underlying107 sz_230 (k := (pt p k).tk.toNat) (show (pt p k).tk = _ by omega) hkk (h.1.isSome hkk)) ?_;refine GT_st rfl rfl rfl rfl (V_fieldA rfl rfl fo_230_0) ?_;refine GT_st rfl rfl rfl rfl (V_load rfl rfl ag_9 (h.1.at0 noM hkk rfl)) ?_;refine GT_st rfl rfl rfl rfl (V_addStr rfl rfl rfl (by show 5 + (tkOf l (pt p k)).name.size ≤ _; omega)) ?_;refine GT_callX rfl rfl rfl rfl rfl rfl rfl rfl rn_95 (fun w m => C_WriteString (p := pb) (bs := bs) (m.hs (HS.cons rfl (HS.chunk HS.all))) hO (by have hnm' : (l.getD (pt p k).tk.toNat default).name.size ≤ 20 := hnm; rw [← byz_len, byz_part, List.length_append, List.length_cons, byz_len]; show _ + (4 + (_ + 1)) ≤ _; omega)) (fun _ _ => GR_nil) (fun y31 hy31 => ?_)
        have e31 : bs ++ byz ((⟨#[112, 97, 114, 116, 32]⟩ : ByteArray) ++ (tkOf l (pt p k)).name) = bs ++ rowL (part5 ++ 32 :: byz (tkOf l (pt p k)).name) ((nums (pt p k)).take 0) := (by rw [byz_part, List.take_zero, rowL_nil])
        refine GT_nil ?_;refine GE_seq ?_;refine GE_seq ?_;refine GE_slots (L' := [(0, _), (7, _), (9, _), (18, _), (19, _), (20, _)]) ⟨rfl, rfl, rfl, rfl, rfl, rfl, trivial⟩ ?_;refine GE_plain (.st 0 (.st 1 (.st 2 (.st 3 (.st 4 (.st 5 (.st 6 (.st 7 (.st 8 (.st 9 (.st 10 (.st 11 (.st 12 (.st 13 .nil)))))))))))))) rfl ?_;refine GT_st rfl rfl rfl rfl (V_field rfl rfl fo_124_1) ?_;refine GT_st rfl rfl rfl rfl (V_load rfl rfl ag_3 (CellAt.item rfl)) ?_;refine GT_st rfl rfl rfl rfl (V_field rfl rfl fo_124_2) ?_;refine GT_st rfl rfl rfl rfl (V_load rfl rfl ag_3 (CellAt.item rfl)) ?_;refine GT_st rfl rfl rfl rfl (V_field rfl rfl fo_124_3) ?_;refine GT_st rfl rfl rfl rfl (V_load rfl rfl ag_3 (CellAt.item rfl)) ?_;refine GT_st rfl rfl rfl rfl (V_field rfl rfl fo_124_4) ?_;refine GT_st rfl rfl rfl rfl (V_load rfl rfl ag_3 (CellAt.item rfl)) ?_;refine GT_st rfl rfl rfl rfl (V_field rfl rfl fo_124_5) ?_;refine GT_st rfl rfl rfl rfl (V_load rfl rfl ag_3 (CellAt.item rfl)) ?_;refine GT_st rfl rfl rfl rfl (V_field rfl rfl fo_124_6) ?_;refine GT_st rfl rfl rfl rfl (V_load rfl rfl ag_2 (CellAt.item rfl)) ?_;refine GT_st rfl rfl rfl rfl (V_build (vs := [_, _, _, _, _, _]) rfl rfl zc_231 pl_231 sa_231 rfl) ?_;refine GT_st rfl rfl rfl rfl (V_move rfl rfl) ?_;refine GT_nil ?_;refine GE_block ?_
        refine GE_to (GE_loop (ι := Nat × List UInt8 × (Option Addr × Nat × Items)) (fun z => 6 - z.1) (fun z => [(0, .slice A l.length c), (7, ptr b7 0), (18, .slice A2 p.length c2), (19, I p.length), (20, I k), (44, .agg #[I (pt p k).fr, I (pt p k).to, I (pt p k).gap, I (pt p k).inn, I (pt p k).out, I (pt p k).lev]), (45, I z.1)]) (fun z => (b7, blk [ptr b7 0, .slice z.2.2.1 z.2.1.length z.2.2.2.1] 223) :: z.2.2.2.2) (fun z => z.1 ≤ 6 ∧ z.2.1 = bs ++ rowL (part5 ++ 32 :: byz (tkOf l (pt p k)).name) ((nums (pt p k)).take z.1) ∧ Own 1 5 eU z.2.1 (.slice z.2.2.1 z.2.1.length z.2.2.2.1) z.2.2.2.2) ?_ (0, _, y31) ?_) ⟨rfl, rfl, rfl, rfl, rfl, rfl, rfl, trivial⟩ (HS.cons rfl HS.last)
        · rintro ⟨j, bs2, y⟩ ⟨hj, hbs2, hO2⟩ ih2; dsimp only at hj hbs2 hO2 ih2 ⊢; have hrl := rowL_len (d := part5 ++ 32 :: byz (tkOf l (pt p k)).name) (n := (nums (pt p k)).take j) (fun x hx => hbs0 x (List.mem_of_mem_take hx)); have hbl : bs2.length ≤ 4000 := (by rw [hbs2, List.length_append]; rw [List.length_take, List.length_append, List.length_cons, byz_len] at hrl; have e6 : (nums (pt p k)).length = 6 := rfl; have e4 : part5.length = 4 := rfl; omega)
          refine GE_seq ?_;refine GE_plain (.st 0 .nil) rfl ?_;refine GT_st rfl rfl rfl rfl (V_lss rfl rfl rfl) ?_;refine GT_nil ?_;refine GE_seq ?_;refine GE_cond rfl (fun q3 => ?_) (fun q3 => ?_)
          · have q3' : j < 6 := (by omega); have hnb := hbs0 _ (getD_mem (l := nums (pt p k)) (i := j) q3'); have hil := itoa_le _ hnb
            refine GE_skip ?_;refine GE_seq ?_;refine GE_block ?_;refine GE_seq ?_;refine GE_plain (.st 0 (.st 1 .nil)) rfl ?_;refine GT_st rfl rfl rfl rfl (V_indexAgg rfl rfl rfl Tryz.underlying231 ag_2 sz_2 (kk := j) rfl (by omega) (show _ = some (I ((nums (pt p k)).getD j default)) by rcases (show j = 0 ∨ j = 1 ∨ j = 2 ∨ j = 3 ∨ j = 4 ∨ j = 5 by omega) with rfl | rfl | rfl | rfl | rfl | rfl <;> rfl)) ?_;refine GT_st rfl rfl rfl rfl (V_assign rfl rfl) ?_;refine GT_nil ?_;refine GE_plain (.st 0 (.ld 1 [] (.st 2 (.ld 3 [] .nil)))) rfl ?_;refine GT_st rfl rfl rfl rfl (V_move rfl rfl) ?_;refine GT_call0 rfl rfl rfl rfl rfl rfl rfl rfl rn_96 (fun w hw => C_FormatInt (E.sh hw) (by unfold I64; omega)) (GR_nil) ?_;refine GT_st rfl rfl rfl rfl (V_addStr rfl rfl rfl (by show 1 + _ ≤ _; omega)) ?_;refine GT_callX rfl rfl rfl rfl rfl rfl rfl rfl rn_95 (fun w m => C_WriteString (p := true) (bs := bs2) (m.hs (HS.cons rfl (HS.chunk HS.all))) hO2 (by rw [← byz_len, byz_sp, List.length_cons, ← byz_stz (Go.Lib.itoa _), byz_len]; omega)) (fun _ _ => GR_nil) (fun y51 hy51 => ?_)
            refine GT_nil ?_;refine GE_inBlock ?_;refine GE_slots (L' := [(0, _), (7, _), (18, _), (19, _), (20, _), (44, _), (45, _)]) ⟨rfl, rfl, rfl, rfl, rfl, rfl, rfl, trivial⟩ ?_;refine GE_plain (.st 0 (.ld 1 [] .nil)) rfl ?_;refine GT_st rfl rfl rfl rfl (V_add rfl rfl rfl (wrap_i64 (by omega))) ?_;refine GT_ldv rfl rfl rfl rfl rfl (V_move rfl rfl) (GR_nil) ?_;refine GT_nil ?_
            exact GE_to (ih2 (j + 1, _, y51) ⟨by dsimp only; omega, by dsimp only; rw [byz_sp, hbs2, rowL_succ (show j < (nums (pt p k)).length from q3'), List.append_assoc]; rfl, hy51⟩ (by dsimp only; omega)) ⟨rfl, rfl, rfl, rfl, rfl, rfl, rfl, trivial⟩ (HS.cons rfl HS.last)
          · refine GE_exit rfl ?_;refine GE_plain (.ld 0 [] .nil) rfl ?_;refine GT_callX rfl rfl rfl rfl rfl rfl rfl rfl rn_97 (fun w m => C_WriteByte (p := true) (bs := bs2) (x := 10) (m.hs (HS.cons rfl (HS.chunk HS.all))) hO2 (by omega)) (fun _ _ => GR_nil) (fun y53 hy53 => ?_)
            refine GT_nil ?_;refine GE_inBlock ?_;refine GE_slots (L' := [(0, _), (7, _), (18, _), (19, _), (20, _)]) ⟨rfl, rfl, rfl, rfl, rfl, trivial⟩ ?_;refine GE_plain (.st 0 (.ld 1 [] .nil)) rfl ?_;refine GT_st rfl rfl rfl rfl (V_add rfl rfl rfl (wrap_i64 (by omega))) ?_;refine GT_ldv rfl rfl rfl rfl rfl (V_move rfl rfl) (GR_nil) ?_;refine GT_nil ?_
            exact GE_to (ih (k + 1, true, _, y53) ⟨by dsimp only; omega, by dsimp only; rw [hbs2, hbs, tx_succ hkl, show j = (nums (pt p k)).length by show j = 6; omega, List.take_length, rowL_nums, List.append_assoc]; rfl, hy53⟩ (by dsimp only; omega)) ⟨rfl, rfl, rfl, rfl, rfl, trivial⟩ (HS.cons rfl HS.last)
        · exact ⟨Nat.zero_le _, e31, hy31⟩
      · refine GE_exit rfl ?_;refine GE_seq ?_;refine GE_slots (L' := [(7, _)]) ⟨rfl, trivial⟩ ?_;refine GE_plain (.ld 0 [] (.st 1 (.st 2 .nil))) rfl ?_;refine GT_callX rfl rfl rfl rfl rfl rfl rfl rfl rn_98 (fun w m => C_String (p := pb) (bs := bs) (m.hs (HS.cons rfl (HS.chunk HS.all))) hO) (fun _ _ => GR_nil) (fun _ _ => ?_)
        refine GT_st rfl rfl rfl rfl (V_assign rfl rfl) ?_;refine GT_st rfl rfl rfl rfl (V_assign rfl rfl) ?_;refine GT_nil ?_;refine GE_ret Tryz.func41 ⟨_, _, rfl, rfl, rfl⟩ (fun w hw => ⟨?_, hw.nil⟩)
        rw [hbs, show k = p.length by omega, List.take_length, txt, if_pos hg, hg]
    · exact ⟨Nat.zero_le _, rfl, Own.nil⟩
end
end Go.Proofs.YtpbflnfcgcldkaaGreatDoor.Take
/- The document's Parse, walked. -/
namespace Go.Proofs.YtpbflnfcgcldkaaGreatDoor.Take
open Go.Sx Go.Proofs Go.RowKit
theorem pcs_mem_le (c : UInt8) : ∀ (s : List UInt8), ∀ x ∈ pcs c s, x.length ≤ s.length
  | [], x, hx => by rw [pcs, List.mem_singleton] at hx; subst hx; exact Nat.le_refl _
  | a :: s, x, hx => by
    have ih := pcs_mem_le c s
    rw [List.length_cons]
    rw [pcs] at hx
    split at hx
    · rcases List.mem_cons.1 hx with rfl | hx
      · exact Nat.zero_le _
      · have := ih x hx; omega
    · rcases List.mem_cons.1 hx with rfl | hx
      · have hm : (pcs c s).headD [] ∈ pcs c s := by
          cases h : pcs c s with
          | nil => exact absurd h (pcs_ne c s)
          | cons y t => exact List.mem_cons_self
        have := ih _ hm
        rw [List.length_cons]; omega
      · have := ih x (List.mem_of_mem_tail hx); omega
section
variable {w : World} {A : Option Addr} {c : Nat} {l : List Tk} {s : List UInt8}
end
end Go.Proofs.YtpbflnfcgcldkaaGreatDoor.Take
/- strings.Lines, walked; the numbers of takes in a map. -/
namespace Go.Proofs.YtpbflnfcgcldkaaGreatDoor.Take
open Go.Sx Go.Proofs Go.RowKit
/-! ### lines -/
theorem in10_split {r : List UInt8} (h : (10 : UInt8) ∈ r) : ∃ a t, r = a ++ 10 :: t ∧ (10 : UInt8) ∉ a := List.eq_append_cons_of_mem h
theorem indexByte_hit : ∀ {a t : List UInt8}, (10 : UInt8) ∉ a → Go.Lib.indexByte (a ++ 10 :: t) 10 = a.length
  | [], t, _ => by rw [List.nil_append, Go.Lib.indexByte, if_pos (by decide)]; rfl
  | x :: a, t, h => by
    have h1 : ¬ (x == 10) = true := by rw [beq_iff_eq]; intro e; exact h (e ▸ List.mem_cons_self)
    have h2 := indexByte_hit (a := a) (t := t) fun m => h (List.mem_cons_of_mem _ m)
    rw [List.cons_append, Go.Lib.indexByte, if_neg h1, h2, if_neg (by rw [beq_iff_eq]; omega), List.length_cons]; omega
theorem indexByte_miss : ∀ {a : List UInt8}, (10 : UInt8) ∉ a → Go.Lib.indexByte a 10 = -1
  | [], _ => rfl
  | x :: a, h => by
    have h1 : ¬ (x == 10) = true := by rw [beq_iff_eq]; intro e; exact h (e ▸ List.mem_cons_self)
    have h2 := indexByte_miss (a := a) fun m => h (List.mem_cons_of_mem _ m)
    rw [Go.Lib.indexByte, if_neg h1, h2]; rfl
def lnE (r : List UInt8) : List UInt8 := r.take ((ln r).length + 1)
theorem ix_yes {r : List UInt8} (h : 0 ≤ Go.Lib.indexByte r 10) : Go.Lib.indexByte r 10 = (ln r).length ∧ (ln r).length + 1 ≤ r.length := by
  by_cases hm : (10 : UInt8) ∈ r
  · obtain ⟨a, t, rfl, ha⟩ := in10_split hm
    rw [indexByte_hit ha, (ln_hit ha).1, List.length_append, List.length_cons]; omega
  · rw [indexByte_miss hm] at h; omega
theorem ix_no {r : List UInt8} (h : ¬ 0 ≤ Go.Lib.indexByte r 10) : lnE r = r ∧ aft r = [] := by
  by_cases hm : (10 : UInt8) ∈ r
  · obtain ⟨a, t, rfl, ha⟩ := in10_split hm
    rw [indexByte_hit ha] at h; omega
  · obtain ⟨e1, e2⟩ := ln_miss hm
    refine ⟨?_, e2⟩
    unfold lnE; rw [e1]; exact List.take_of_length_le (by omega)
theorem trim_lnE (r : List UInt8) : Go.Lib.trimSuffix (lnE r) [10] = ln r := by
  by_cases hm : (10 : UInt8) ∈ r
  · obtain ⟨a, t, rfl, ha⟩ := in10_split hm
    have e := (ln_hit (r := t) ha).1
    have e2 : lnE (a ++ 10 :: t) = a ++ [10] := by
      unfold lnE; rw [e, show a ++ 10 :: t = (a ++ [10]) ++ t by rw [List.append_assoc]; rfl]
      exact List.take_left' (by simp)
    have hs : Go.Lib.hasSuffix (a ++ [10]) [10] = true := by unfold Go.Lib.hasSuffix; rw [List.isSuffixOf_iff_suffix]; exact List.suffix_append _ _
    rw [e2, e]
    unfold Go.Lib.trimSuffix
    rw [if_pos hs]
    exact List.take_left' (by simp)
  · obtain ⟨e1, _⟩ := ln_miss hm
    have e2 : lnE r = r := by unfold lnE; rw [e1]; exact List.take_of_length_le (by omega)
    have hs : ¬ Go.Lib.hasSuffix r [10] = true := by
      unfold Go.Lib.hasSuffix; rw [List.isSuffixOf_iff_suffix]
      intro q; exact hm (q.subset (List.mem_singleton.2 rfl))
    rw [e2, e1]
    unfold Go.Lib.trimSuffix
    rw [if_neg hs]
theorem lnE_len (r : List UInt8) : (lnE r).length ≤ r.length := by unfold lnE; rw [List.length_take]; omega
theorem ln_len (r : List UInt8) : (ln r).length ≤ r.length := by
  refine pcs_mem_le 10 r _ ?_
  unfold ln
  cases h : pcs 10 r with
  | nil => exact absurd h (pcs_ne 10 r)
  | cons y t => exact List.mem_cons_self
section
variable {w : World} {s : List UInt8}
theorem C_Lines : Con Tryz.prog 104 [.string (stz s)] w (fun _ : Nat => True) (fun b => .func (.func 159) #[] #[ptr b 0]) (fun b => [(b, blk [.string (stz s)] 9)]) := by
  refine Ret_of (vs := [_]) hm none' Tryz.func104 rfl Tryz.ntmps104 rfl ?_
  dsimp only [slotsOf]
  refine GE_seq ?_;refine GE_plain (.ld 0 [] (.st 1 .nil)) rfl ?_;refine GT_box (z := [_]) rfl rfl rfl rfl rfl rfl rfl (fun _ => GR_nil) (fun b1 => ?_)
  refine GT_st rfl rfl rfl rfl (V_assign rfl rfl) ?_;refine GT_nil ?_;refine GE_seq ?_;refine GE_plain (.st 0 (.st 1 .nil)) rfl ?_;refine GT_st rfl rfl rfl rfl (V_makeFunc rfl rfl rfl) ?_;refine GT_st rfl rfl rfl rfl (V_assign rfl rfl) ?_;refine GT_nil ?_;refine GE_ret Tryz.func104 rfl (fun w hw => ?_)
  exact ⟨_, trivial, rfl, hw.hs (C := cx Tryz.prog hm 0 0 _ none' fun _ _ => True) (HS.cons rfl HS.nil)⟩
set_option maxRecDepth 10000 in
theorem C_Lines1 {b1 lp : Nat} {w0 : World} {G J : Items} {Q : List UInt8 → Items → Prop} {Qx : Items → Prop} (hs : s.length ≤ 1000000)
    (hY : ∀ r J, r ≠ [] → Q r J → ∀ G, YieldTo Tryz.prog w0 none' lp [.string (stz (lnE r))] (J ++ G) fun v H' => ∃ J', H' = J' ++ G ∧ (v = .bool true ∧ Q (aft r) J' ∨ v = .bool false ∧ Qx J'))
    (hQ : Q s J) (m : SH w0 none' (J ++ ((b1, blk [.string (stz s)] 9) :: G)) w) :
    Ret Tryz.prog 159 [.func (.yield lp) #[] #[], ptr b1 0].toArray w fun v w' => ∃ J', (Q [] J' ∨ Qx J') ∧ SH w0 none' (J' ++ G) w' := by
  refine Ret_ofH (vs := [_, _]) hm none' Tryz.func159 rfl Tryz.ntmps159 rfl m ?_
  dsimp only [slotsOf]
  refine GE_block ?_;refine GE_to (GE_loop (ι := List UInt8 × Items) (fun z => z.1.length) (fun z => [(0, .func (.yield lp) #[] #[]), (1, ptr b1 0)]) (fun z => z.2 ++ ((b1, blk [.string (stz z.1)] 9) :: G)) (fun z => z.1.length ≤ s.length ∧ Q z.1 z.2) ?_ (s, J) ?_) ⟨rfl, rfl, trivial⟩ (HS.chunk (HS.cons rfl HS.last))
  · rintro ⟨r, J1⟩ ⟨hr, hQ1⟩ ih; dsimp only at hr hQ1 ih ⊢; have hrz := stz_size r
    refine GE_seq ?_;refine GE_seq ?_;refine GE_plain (.st 0 (.st 1 (.st 2 .nil))) rfl ?_;refine GT_st rfl rfl rfl rfl (V_load rfl rfl ag_9 (CellAt.item rfl)) ?_;refine GT_st rfl rfl rfl rfl (V_len_str rfl Tryz.underlying9 rfl) ?_;refine GT_st rfl rfl rfl rfl (V_gtr rfl rfl rfl) ?_;refine GT_nil ?_;refine GE_cond rfl (fun q1 => ?_) (fun q1 => ?_)
    · have hrn : r ≠ [] := (by intro q; have e0 : r.length = 0 := congrArg List.length q; omega)
      refine GE_skip ?_;refine GE_block ?_;refine GE_seq ?_;refine GE_plain (.st 0 .nil) rfl ?_;refine GT_st rfl rfl rfl rfl (V_assign rfl rfl) ?_;refine GT_nil ?_;refine GE_cut (ι := Unit) (fun _ => [(0, .func (.yield lp) #[] #[]), (1, ptr b1 0), (3, .string (stz (lnE r)))]) (fun _ => J1 ++ ((b1, blk [.string (stz (aft r))] 9) :: G)) (fun _ => True) ?_ (fun hk => ?_)
      · intro _ _
        refine GE_seq ?_;refine GE_plain (.st 0 (.st 1 (.ld 2 [] (.st 3 .nil)))) rfl ?_;refine GT_st rfl rfl rfl rfl (V_move rfl rfl) ?_;refine GT_st rfl rfl rfl rfl (V_move rfl rfl) ?_;refine GT_yield rfl rfl rfl rfl rfl rfl rfl (YieldTo.chunk (hY r J1 hrn hQ1 _)) (fun _ _ _ => GR_nil) (fun v H' hR => ?_)
        rcases hR with ⟨J2, rfl, ⟨rfl, hQ2⟩ | ⟨rfl, hX⟩⟩
        · refine GT_st rfl rfl rfl rfl (V_notB rfl rfl) ?_;refine GT_nil ?_;refine GE_cond_f rfl ?_;refine GE_skip ?_;refine GE_inBlock ?_
          exact GE_to (ih (aft r, J2) ⟨by have := aft_lt hrn; dsimp only; omega, hQ2⟩ (aft_lt hrn)) ⟨rfl, rfl, trivial⟩ (HS.chunk (HS.cons rfl HS.last))
        · refine GT_st rfl rfl rfl rfl (V_notB rfl rfl) ?_;refine GT_nil ?_;refine GE_cond_t rfl ?_;refine GE_ret Tryz.func159 rfl (fun w hw => ?_)
          first | exact ⟨J2, .inr hX, hw.hs (C := cx Tryz.prog hm 0 0 w0 none' fun _ _ => True) (HS.chunk HS.last)⟩ | (rw [hrn] at hQ1; exact ⟨J1, .inl hQ1, hw.hs (C := cx Tryz.prog hm 0 0 w0 none' fun _ _ => True) (HS.chunk HS.last)⟩)
      · refine GE_seq ?_;refine GE_slots (L' := [(0, _), (1, _)]) ⟨rfl, rfl, trivial⟩ ?_;refine GE_plain (.st 0 (.ld 1 [] (.st 2 .nil))) rfl ?_;refine GT_st rfl rfl rfl rfl (V_load rfl rfl ag_9 (CellAt.item rfl)) ?_;refine GT_call0 rfl rfl rfl rfl rfl rfl rfl rfl rn_160 (fun w hw => C_IndexByte) (GR_nil) ?_;refine GT_st rfl rfl rfl rfl (V_assign rfl rfl) ?_;refine GT_nil ?_;refine GE_seq ?_;refine GE_plain (.st 0 (.st 1 .nil)) rfl ?_;refine GT_st rfl rfl rfl rfl (V_move rfl rfl) ?_;refine GT_st rfl rfl rfl rfl (V_geq rfl rfl rfl) ?_;refine GT_nil ?_
        first | refine GE_cond rfl (fun q2 => ?_) (fun q2 => ?_)
        · have hix := ix_yes q2
          refine GE_slots (L' := [(0, _), (1, _), (4, _)]) ⟨rfl, rfl, rfl, trivial⟩ ?_;refine GE_drawn (.st 0 (.st 1 (.st 2 (.st 3 (.st 4 (.st 5 (.st 6 (.st 7 (.st 8 (.ld 9 [] .nil)))))))))) [9] (by decide +kernel) ?_;refine GT_st rfl rfl rfl rfl (V_load rfl rfl ag_9 (CellAt.item rfl)) ?_;refine GT_st rfl rfl rfl rfl (V_move rfl rfl) ?_;refine GT_st rfl rfl rfl rfl (V_add rfl rfl rfl (wrap_i64 (by omega))) ?_;refine GT_st rfl rfl rfl rfl (V_sliceStrTo (hi := (ln r).length + 1) rfl rfl rfl Tryz.underlying9 (by omega) (by omega)) ?_;refine GT_st rfl rfl rfl rfl (V_load rfl rfl ag_9 (CellAt.item rfl)) ?_;refine GT_st rfl rfl rfl rfl (V_move rfl rfl) ?_;refine GT_st rfl rfl rfl rfl (V_add rfl rfl rfl (wrap_i64 (by omega))) ?_;refine GT_st rfl rfl rfl rfl (V_sliceStrFrom (lo := (ln r).length + 1) rfl rfl rfl Tryz.underlying9 (by omega) (by omega)) ?_;refine GT_st rfl rfl rfl rfl (V_assign rfl rfl) ?_;refine GT_store (vs := [_]) rfl rfl rfl rfl rfl rfl rfl sz_9 rfl rfl (Nat.le_of_ble_eq_true rfl) rfl (GR_nil) ?_;refine GT_nil ?_
          first | exact GE_to (hk () trivial) ⟨rfl, rfl, rfl, trivial⟩ (HS.chunk (HS.cons rfl HS.last)) | exact GE_to (hk () trivial) ⟨rfl, rfl, lookT rfl (by rw [hix.1]), trivial⟩ (HS.chunk (HS.cons (by rw [hix.2]; rfl) HS.last))
        · have hix := ix_no q2
          refine GE_slots (L' := [(0, _), (1, _)]) ⟨rfl, rfl, trivial⟩ ?_;refine GE_plain (.st 0 (.st 1 (.ld 2 [] .nil))) rfl ?_;refine GT_st rfl rfl rfl rfl (V_load rfl rfl ag_9 (CellAt.item rfl)) ?_;refine GT_st rfl rfl rfl rfl (V_assign rfl rfl) ?_;refine GT_store (vs := [_]) rfl rfl rfl rfl rfl rfl rfl sz_9 rfl rfl (Nat.le_of_ble_eq_true rfl) rfl (GR_nil) ?_;refine GT_nil ?_
          first | exact GE_to (hk () trivial) ⟨rfl, rfl, rfl, trivial⟩ (HS.chunk (HS.cons rfl HS.last)) | exact GE_to (hk () trivial) ⟨rfl, rfl, lookT rfl (by rw [hix.1]), trivial⟩ (HS.chunk (HS.cons (by rw [hix.2]; rfl) HS.last))
    · have hrn : r = [] := List.length_eq_zero_iff.1 (by omega)
      refine GE_exit rfl ?_;refine GE_end Tryz.func159 rfl (fun w hw => ?_)
      first | exact ⟨J2, .inr hX, hw.hs (C := cx Tryz.prog hm 0 0 w0 none' fun _ _ => True) (HS.chunk HS.last)⟩ | (rw [hrn] at hQ1; exact ⟨J1, .inl hQ1, hw.hs (C := cx Tryz.prog hm 0 0 w0 none' fun _ _ => True) (HS.chunk HS.last)⟩)
  · exact ⟨Nat.le_refl _, hQ⟩
end
/-! ### the map from names to numbers of takes -/
def mhas (ks : List KV) (k : ByteArray) : Bool := (midx ks k).isSome
theorem mhas_cons (x : KV) (ks : List KV) (k : ByteArray) : mhas (x :: ks) k = (decide (x.1 = k) || mhas ks k) := by
  unfold mhas; rw [midx_cons]
  by_cases h : x.1 = k
  · simp [h]
  · simp [h]
theorem mget_cons (x : KV) (ks : List KV) (k : ByteArray) : mget (x :: ks) k = if x.1 = k then x.2 else mget ks k := by
  unfold mget; rw [midx_cons]
  by_cases h : x.1 = k
  · simp [h, List.getD]
  · simp only [h, if_false]
    cases midx ks k with
    | none => rfl
    | some i => simp [List.getD]
theorem mput_cons (x : KV) (ks : List KV) (k : ByteArray) (z : Int) : mput (x :: ks) k z = if x.1 = k then (k, z) :: ks else x :: mput ks k z := by
  unfold mput; rw [midx_cons]
  by_cases h : x.1 = k
  · simp [h]
  · simp only [h, if_false]
    cases midx ks k with
    | none => rfl
    | some i => rfl
theorem mhas_mput (k : ByteArray) (z : Int) (nm : ByteArray) : ∀ ks : List KV, mhas (mput ks k z) nm = (decide (k = nm) || mhas ks nm)
  | [] => by rw [show mput [] k z = [(k, z)] from rfl, mhas_cons]
  | x :: ks => by
    have ih := mhas_mput k z nm ks
    rw [mput_cons]
    by_cases h : x.1 = k
    · rw [if_pos h, mhas_cons, mhas_cons, h]
      by_cases h2 : k = nm <;> simp [h2]
    · rw [if_neg h, mhas_cons, mhas_cons, ih]
      by_cases h2 : k = nm <;> by_cases h3 : x.1 = nm <;> simp [h2, h3]
theorem mget_mput (k : ByteArray) (z : Int) (nm : ByteArray) : ∀ ks : List KV, mget (mput ks k z) nm = if k = nm then z else mget ks nm
  | [] => by rw [show mput [] k z = [(k, z)] from rfl, mget_cons]
  | x :: ks => by
    have ih := mget_mput k z nm ks
    rw [mput_cons]
    by_cases h : x.1 = k
    · rw [if_pos h, mget_cons, mget_cons, h]
      by_cases h2 : k = nm <;> simp [h2]
    · rw [if_neg h, mget_cons, mget_cons, ih]
      by_cases h2 : k = nm
      · by_cases h3 : x.1 = nm
        · exact absurd (h3.trans h2.symm) h
        · simp [h2, h3]
      · simp [h2]
def mapOk (l : List Tk) (k : Nat) (ks : List KV) : Prop := ∀ nm, mhas ks nm = decide (0 ≤ lastIx l nm k) ∧ (0 ≤ lastIx l nm k → mget ks nm = lastIx l nm k)
theorem mapOk_0 (l : List Tk) : mapOk l 0 [] := fun nm => ⟨rfl, fun h => by rw [lastIx] at h; omega⟩
theorem mapOk_succ {l : List Tk} {k : Nat} {ks : List KV} (h : mapOk l k ks) : mapOk l (k + 1) (mput ks (l.getD k default).name k) := fun nm => by
  obtain ⟨h1, h2⟩ := h nm
  rw [mhas_mput, mget_mput, lastIx]
  by_cases e : (l.getD k default).name = nm
  · rw [if_pos e, if_pos e, decide_eq_true e]
    refine ⟨?_, fun _ => rfl⟩
    rw [decide_eq_true (by omega)]; rfl
  · rw [if_neg e, if_neg e, decide_eq_false e, h1]
    exact ⟨rfl, h2⟩
theorem mapOk_has {l : List Tk} {ks : List KV} (h : mapOk l l.length ks) (nm : ByteArray) : (midx ks nm).isSome = decide (0 ≤ ix l nm) := (h nm).1
theorem mapOk_get {l : List Tk} {ks : List KV} (h : mapOk l l.length ks) {nm : ByteArray} (h0 : 0 ≤ ix l nm) : mget ks nm = ix l nm := (h nm).2 h0
end Go.Proofs.YtpbflnfcgcldkaaGreatDoor.Take
/- The program's Parse, walked. -/
namespace Go.Proofs.YtpbflnfcgcldkaaGreatDoor.Take
open Go.Sx Go.Proofs Go.RowKit
/-! ### the numbers of a row, one after another -/
def sel (W : List (List UInt8)) (i j : Nat) : Int := if j < i then at1 W j else 0
def nv (W : List (List UInt8)) (i : Nat) : List Value := [I 0, I 0, I (sel W i 2), I (sel W i 3), I (sel W i 4), I (sel W i 5), I (sel W i 6), I (sel W i 7)]
theorem nv_succ (W : List (List UInt8)) {i : Nat} (h : 2 ≤ i ∧ i < 8) : setsAt (nv W i) (0 + i * 1) [I (at1 W i)] = nv W (i + 1) := by
  rcases (show i = 2 ∨ i = 3 ∨ i = 4 ∨ i = 5 ∨ i = 6 ∨ i = 7 by omega) with rfl | rfl | rfl | rfl | rfl | rfl <;> simp [nv, sel, setsAt]
theorem nv_len (W : List (List UInt8)) (i : Nat) : (nv W i).length = 8 := rfl
theorem gw_get {W : List (List UInt8)} {i : Nat} (h : i < W.length) : (eB (W.getD i default))[0]? = some (Value.string (stz (gw W i))) := rfl
theorem ps1_len {l : List Tk} {r : List UInt8} (hr : r ≠ []) {p : List Prt} (h : (pcs 32 (ln r)).length ≠ 8 ∨ p.length = 32 ∨ ix l (stz (gw (pcs 32 (ln r)) 1)) < 0) : ps1 l (rws r) p = none := by
  rw [rws_cons hr, ps1]
  by_cases h1 : p.length = 32
  · rw [if_pos h1]
  · rw [if_neg h1]
    have e : pr1 l (ln r) = none := by
      unfold pr1
      rcases h with h | h | h
      · rw [if_pos h]
      · exact absurd h h1
      · split
        · rfl
        · first | rfl | rw [if_pos h]
    rw [e]
theorem ps1_next {l : List Tk} {r : List UInt8} (hr : r ≠ []) {p : List Prt} (h1 : (pcs 32 (ln r)).length = 8) (h2 : ¬ p.length = 32) (h3 : 0 ≤ ix l (stz (gw (pcs 32 (ln r)) 1))) : ps1 l (rws r) p = ps1 l (rws (aft r)) (p ++ [mk1 l (pcs 32 (ln r))]) := by
  rw [rws_cons hr, ps1, if_neg h2]
  have e : pr1 l (ln r) = some (mk1 l (pcs 32 (ln r))) := by
    unfold pr1
    rw [if_neg (fun q => q h1), if_neg (by omega)]
  rw [e]
section
variable {w : World} {A : Option Addr} {c : Nat} {l : List Tk} {s : List UInt8}
set_option maxRecDepth 20000 in
set_option maxHeartbeats 4000000 in
theorem C_Parse (E : Env w) (h : Tks w A l) (hs : s.length ≤ 70000) : Con Tryz.prog 45 [.slice A l.length c, .string (stz s)] w (fun y : Option Addr × Nat × Items => Own 7 124 ePrt (pa1 l s).1 (.slice y.1 (pa1 l s).1.length y.2.1) y.2.2)
    (fun y => .tuple #[.slice y.1 (pa1 l s).1.length y.2.1, I (pa1 l s).2]) (fun y => y.2.2) := by
  have hsz := stz_size s
  refine Ret_of (vs := [_, _]) hm none' Tryz.func45 rfl Tryz.ntmps45 rfl ?_
  dsimp only [slotsOf]
  refine GE_seq ?_;refine GE_plain (.ld 0 [] (.ld 1 [] .nil)) rfl ?_;refine GT_alloc rfl rfl rfl rfl rfl zc_108 (fun _ => GR_nil) (fun b4 => ?_)
  refine GT_alloc rfl rfl rfl rfl rfl zc_27 (fun _ => GR_nil) (fun b5 => ?_)
  refine GT_nil ?_;refine GE_seq ?_;refine GE_seq ?_;refine GE_plain (.st 0 (.ld 1 [] (.st 2 .nil))) rfl ?_;refine GT_st rfl rfl rfl rfl (V_move rfl rfl) ?_;refine GT_call0 rfl rfl rfl rfl rfl rfl rfl rfl rn_103 (fun w hw => C_CheckTakes (h.sh hw)) (GR_nil) ?_;refine GT_st rfl rfl rfl rfl (V_assign rfl rfl) ?_;refine GT_nil ?_;refine GE_seq ?_;refine GE_plain (.st 0 (.st 1 .nil)) rfl ?_;refine GT_st rfl rfl rfl rfl (V_move rfl rfl) ?_;refine GT_st rfl rfl rfl rfl (V_neq rfl rfl rfl) ?_;refine GT_nil ?_;refine GE_condNot rfl (fun q1 => ?_) (fun q1 => ?_)
  · refine GE_seq ?_;refine GE_slots (L' := [(4, _), (5, _), (6, _)]) ⟨rfl, rfl, rfl, trivial⟩ ?_;refine GE_plain (.st 0 (.ld 1 [] (.ld 2 [] .nil))) rfl ?_;refine GT_st rfl rfl rfl rfl (V_move rfl rfl) ?_;refine GT_store (vs := [_]) (l' := [_]) rfl rfl rfl rfl rfl rfl rfl sz_108 rfl rfl (Nat.le_of_ble_eq_true rfl) rfl (GR_nil) ?_;refine GT_store (vs := [_]) (l' := [_]) rfl rfl rfl rfl rfl rfl rfl sz_27 rfl rfl (Nat.le_of_ble_eq_true rfl) rfl (GR_nil) ?_;refine GT_nil ?_;refine GE_ret Tryz.func45 ⟨_, _, ⟨_, rfl, fun w m => run_loadVar_one ag_108 (CellAt.item rfl w m)⟩, ⟨_, rfl, fun w m => run_loadVar_one ag_27 (CellAt.item rfl w m)⟩, rfl⟩ (fun w hw => ?_)
    have e : pa1 l s = ([], lErr l) := if_neg q1; exact ⟨(none, 0, []), by rw [e]; exact Own.nil, by rw [e] <;> rfl, hw.nil⟩
  · have h0 : lErr l = 0 := (by omega)
    refine GE_skip ?_;refine GE_seq ?_;refine GE_seq ?_;refine GE_slots (L' := [(0, _), (1, _), (4, _), (5, _)]) ⟨rfl, rfl, rfl, rfl, trivial⟩ ?_;refine GE_plain (.st 0 (.st 1 (.st 2 .nil))) rfl ?_;refine GT_st rfl rfl rfl rfl (V_move rfl rfl) ?_;refine GT_st rfl rfl rfl rfl (V_len_str rfl Tryz.underlying9 rfl) ?_;refine GT_st rfl rfl rfl rfl (V_gtr rfl rfl rfl) ?_;refine GT_nil ?_;refine GE_cond rfl (fun q2 => ?_) (fun q2 => ?_)
    · refine GE_seq ?_;refine GE_slots (L' := [(4, _), (5, _)]) ⟨rfl, rfl, trivial⟩ ?_;refine GE_plain (.ld 0 [] (.ld 1 [] .nil)) rfl ?_;refine GT_store (vs := [_]) (l' := [_]) rfl rfl rfl rfl rfl rfl rfl sz_108 rfl rfl (Nat.le_of_ble_eq_true rfl) rfl (GR_nil) ?_;refine GT_store (vs := [_]) (l' := [_]) rfl rfl rfl rfl rfl rfl rfl sz_27 rfl rfl (Nat.le_of_ble_eq_true rfl) rfl (GR_nil) ?_;refine GT_nil ?_;refine GE_ret Tryz.func45 ⟨_, _, ⟨_, rfl, fun w m => run_loadVar_one ag_108 (CellAt.item rfl w m)⟩, ⟨_, rfl, fun w m => run_loadVar_one ag_27 (CellAt.item rfl w m)⟩, rfl⟩ (fun w hw => ?_)
      have e : pa1 l s = ([], 7) := (by rw [pa1, if_pos h0, if_pos (by omega)]); exact ⟨(none, 0, []), by rw [e]; exact Own.nil, by rw [e] <;> rfl, hw.nil⟩
    · have eU : pa1 l s = (match ps1 l (rws s) [] with | none => ([], 8) | some p => unT l s p) := (by rw [pa1, if_pos h0, if_neg (by omega)] <;> rfl); have hl16 := (lErr_zero.1 h0).most
      refine GE_skip ?_;refine GE_seq ?_;refine GE_plain (.ld 0 [] (.ld 1 [] (.ld 2 [] .nil))) rfl ?_;refine GT_makeMap rfl rfl rfl rfl rfl (fun _ => GR_nil) (fun b27 => ?_)
      refine GT_alloc rfl rfl rfl rfl rfl zc_240 (fun _ => GR_nil) (fun b7 => ?_)
      refine GT_store (vs := [_]) (l' := [_]) rfl rfl rfl rfl rfl rfl rfl sz_240 rfl rfl (Nat.le_of_ble_eq_true rfl) rfl (GR_nil) ?_;refine GT_nil ?_;refine GE_seq ?_;refine GE_seq ?_;refine GE_slots (L' := [(0, _), (1, _), (4, _), (5, _), (7, _)]) ⟨rfl, rfl, rfl, rfl, rfl, trivial⟩ ?_;refine GE_plain (.st 0 (.st 1 (.st 2 .nil))) rfl ?_;refine GT_st rfl rfl rfl rfl (V_move rfl rfl) ?_;refine GT_st rfl rfl rfl rfl (V_len rfl Tryz.underlying107 rfl) ?_;refine GT_st rfl rfl rfl rfl (V_move rfl rfl) ?_;refine GT_nil ?_;refine GE_block ?_;refine GE_to (GE_loop (ι := Nat × List KV) (fun z => l.length - z.1) (fun z => [(0, .slice A l.length c), (1, .string (stz s)), (4, ptr b4 0), (5, ptr b5 0), (7, ptr b7 0), (28, .slice A l.length c), (29, I l.length), (30, I z.1)]) (fun z => [(b27, mobj z.2), (b7, blk [.map (some b27)] 240), (b4, blk [.slice none 0 0] 108), (b5, blk [I 0] 27)]) (fun z => z.1 ≤ l.length ∧ mapOk l z.1 z.2) ?_ (0, []) ?_) ⟨rfl, rfl, rfl, rfl, rfl, rfl, rfl, rfl, trivial⟩ (HS.cons rfl (HS.cons rfl (HS.cons rfl (HS.cons rfl HS.nil))))
      · rintro ⟨k, ks⟩ ⟨hk, hm1⟩ ih; dsimp only at hk hm1 ih ⊢
        refine GE_seq ?_;refine GE_plain (.st 0 .nil) rfl ?_;refine GT_st rfl rfl rfl rfl (V_lss rfl rfl rfl) ?_;refine GT_nil ?_;refine GE_seq ?_;refine GE_cond rfl (fun q3 => ?_) (fun q3 => ?_)
        · have hkl : k < l.length := (by omega)
          refine GE_skip ?_;refine GE_seq ?_;refine GE_block ?_;refine GE_seq ?_;refine GE_plain (.st 0 (.st 1 (.st 2 (.ld 3 [] (.st 4 (.ld 5 [] .nil)))))) rfl ?_;refine GT_st rfl rfl rfl rfl (V_move rfl rfl) ?_;refine GT_st rfl rfl rfl rfl (V_index rfl rfl rfl Tryz.underlying107 sz_230 (k := k) rfl hkl (h.1.isSome hkl)) ?_;refine GT_st rfl rfl rfl rfl (V_loadN (vs := [_, _]) rfl rfl ag_230 sz_230 rfl (h.1.ats noM hkl)) ?_;refine GT_alloc rfl rfl rfl rfl rfl zc_230 (fun _ => GR_nil) (fun b9 => ?_)
          refine GT_st rfl rfl rfl rfl (V_assign rfl rfl) ?_;refine GT_store (vs := [_, _]) (l' := [_, _]) rfl rfl rfl rfl rfl rfl rfl sz_230 rfl rfl (Nat.le_of_ble_eq_true rfl) rfl (GR_nil) ?_;refine GT_nil ?_;refine GE_slots (L' := [(0, _), (1, _), (4, _), (5, _), (7, _), (8, _), (9, _), (28, _), (29, _), (30, _)]) ⟨rfl, rfl, rfl, rfl, rfl, rfl, rfl, rfl, rfl, rfl, trivial⟩ ?_;refine GE_plain (.st 0 (.st 1 (.st 2 (.st 3 (.ld 4 [] .nil))))) rfl ?_;refine GT_st rfl rfl rfl rfl (V_load rfl rfl ag_240 (CellAt.item rfl)) ?_;refine GT_st rfl rfl rfl rfl (V_field rfl rfl fo_230_0) ?_;refine GT_st rfl rfl rfl rfl (V_load rfl rfl ag_9 (CellAt.item rfl)) ?_;refine GT_st rfl rfl rfl rfl (V_move rfl rfl) ?_;refine GT_mapUpdate rfl rfl rfl rfl rfl rfl rfl Tryz.underlying240 Tryz.underlying9 (GR_nil) ?_;refine GT_nil ?_;refine GE_inBlock ?_;refine GE_slots (L' := [(0, _), (1, _), (4, _), (5, _), (7, _), (28, _), (29, _), (30, _)]) ⟨rfl, rfl, rfl, rfl, rfl, rfl, rfl, rfl, trivial⟩ ?_;refine GE_plain (.st 0 (.ld 1 [] .nil)) rfl ?_;refine GT_st rfl rfl rfl rfl (V_add rfl rfl rfl (wrap_i64 (by omega))) ?_;refine GT_ldv rfl rfl rfl rfl rfl (V_move rfl rfl) (GR_nil) ?_;refine GT_nil ?_
          exact GE_to (ih (k + 1, mput ks (l.getD k default).name k) ⟨by dsimp only; omega, mapOk_succ hm1⟩ (by dsimp only; omega)) ⟨rfl, rfl, rfl, rfl, rfl, rfl, rfl, rfl, trivial⟩ (HS.cons rfl (HS.cons rfl (HS.cons rfl (HS.cons rfl HS.nil))))
        · obtain rfl : k = l.length := (by omega)
          refine GE_exit rfl ?_;refine GE_seq ?_;refine GE_slots (L' := [(0, _), (1, _), (4, _), (5, _), (7, _)]) ⟨rfl, rfl, rfl, rfl, rfl, trivial⟩ ?_;refine GE_plain (.ld 0 [] .nil) rfl ?_;refine GT_alloc rfl rfl rfl rfl rfl zc_108 (fun _ => GR_nil) (fun b10 => ?_)
          refine GT_nil ?_;refine GE_seq ?_;refine GE_seq ?_;refine GE_plain (.st 0 (.ld 1 [] .nil)) rfl ?_;refine GT_st rfl rfl rfl rfl (V_move rfl rfl) ?_;refine GT_call rfl rfl rfl rfl rfl rfl rfl rfl rn_104 (fun w hw => C_Lines) (fun _ _ => GR_nil) (fun bl _ => ?_)
          refine GT_nil ?_;refine GE_block ?_;refine GE_range rfl rfl rn_159 (fun T l5 q r0 hr0 hT hlk w hw => ?_)
          refine (C_Lines1 (s := s) (b1 := bl) (lp := l5) (J := (l5, .loop r0) :: (b10, blk [.slice none 0 0] 108) :: (b27, mobj ks) :: (b7, blk [.map (some b27)] 240) :: (b4, blk [.slice none 0 0] 108) :: (b5, blk [I 0] 27) :: []) (G := [(q, .deferred (some []))])
            (Q := fun r J => ∃ p A5 c5 I5, (r.length ≤ s.length ∧ p.length ≤ 32) ∧ ps1 l (rws s) [] = ps1 l (rws r) p ∧ Own 7 124 ePrt p (.slice A5 p.length c5) I5 ∧ J = (l5, .loop r0) :: (b10, blk [.slice A5 p.length c5] 108) :: (b27, mobj ks) :: (b7, blk [.map (some b27)] 240) :: (b4, blk [.slice none 0 0] 108) :: (b5, blk [I 0] 27) :: I5)
            (Qx := fun J => ps1 l (rws s) [] = none ∧ J = (l5, .loop { r0 with state := .done, pending := some .ret }) :: (b4, blk [.slice none 0 0] 108) :: (b5, blk [I 8] 27) :: [])
            (by omega) ?_ ⟨[], none, 0, [], ⟨Nat.le_refl _, Nat.zero_le _⟩, rfl, Own.nil, rfl⟩ (hw.hs ((show HS _ _ ((l5, .loop r0) :: (b10, _) :: (b27, _) :: (b7, _) :: (b4, _) :: (b5, _) :: (bl, _) :: [(q, .deferred (some []))]) from HS.cons rfl (HS.cons rfl (HS.cons rfl (HS.cons rfl (HS.cons rfl (HS.cons rfl (HS.cons rfl (HS.cons rfl HS.nil)))))))))) ).mono (fun v w' ⟨J', hQ', hw'⟩ => ?_)
          · rintro r J hrn ⟨p, A5, c5, I5, ⟨hrl, hpl⟩, hps, hO5, hJ⟩ G; subst hJ; subst hr0
            have hll := ln_len r
            have hlE := lnE_len r
            refine yield_of inferInstance rfl rfl hT hlk rfl rfl hm ?_;refine GE_slots (L' := [(0, .slice A l.length c), (1, .string (stz s)), (4, ptr b4 0), (5, ptr b5 0), (7, ptr b7 0), (10, ptr b10 0), (42, .string (stz (lnE r)))]) ⟨rfl, rfl, rfl, rfl, rfl, rfl, rfl, trivial⟩ ?_;refine GE_plain (.st 0 .nil) rfl ?_;refine GT_st rfl rfl rfl rfl (V_assign rfl rfl) ?_;refine GT_nil ?_;refine GE_beginRound rfl ?_;refine GE_block ?_;refine GE_seq ?_;refine GE_plain (.st 0 (.ld 1 [] (.ld 2 [] (.st 3 .nil)))) rfl ?_;refine GT_st rfl rfl rfl rfl (V_move rfl rfl) ?_;refine GT_call0 rfl rfl rfl rfl rfl rfl rfl rfl rn_106 (fun w hw => C_TrimSuffix (by omega)) (GR_nil) ?_
            rw [trim_lnE]
            refine GT_call rfl rfl rfl rfl rfl rfl rfl rfl rn_105 (fun w hw => C_Split (s := ln r) (E.sh hw) (by omega)) (fun _ _ => GR_nil) (fun u hu => ?_)
            refine GT_st rfl rfl rfl rfl (V_assign rfl rfl) ?_;refine GT_nil ?_;refine GE_seq ?_;refine GE_seq ?_;refine GE_slots (L' := [(4, _), (5, _), (7, _), (10, _), (12, _)]) ⟨rfl, rfl, rfl, rfl, rfl, trivial⟩ ?_;refine GE_plain (.st 0 (.st 1 (.st 2 (.st 3 (.st 4 (.st 5 (.st 6 (.st 7 .nil)))))))) rfl ?_;refine GT_st rfl rfl rfl rfl (V_move rfl rfl) ?_;refine GT_st rfl rfl rfl rfl (V_len rfl Tryz.underlying113 rfl) ?_;refine GT_st rfl rfl rfl rfl (V_neq rfl rfl rfl) ?_;refine GT_st rfl rfl rfl rfl (V_move rfl rfl) ?_;refine GT_splitNot (d := 49) rfl (fun q4 => ?_) (fun q4 => ?_)
            · refine GT_skip rfl rfl rfl rfl rfl (by decide) rfl rfl ?_;refine GT_skip rfl rfl rfl rfl rfl (by decide) rfl rfl ?_;refine GT_skip rfl rfl rfl rfl rfl (by decide) rfl rfl ?_;refine GT_st rfl rfl rfl rfl (V_pick_t rfl rfl rfl) ?_;refine GT_nil ?_;refine GE_cond_t rfl ?_;refine GE_seq ?_;refine GE_slots (L' := [(4, _), (5, _)]) ⟨rfl, rfl, trivial⟩ ?_;refine GE_plain (.ld 0 [] (.ld 1 [] .nil)) rfl ?_;refine GT_store (vs := [_]) (l' := [_]) rfl rfl rfl rfl rfl rfl rfl sz_108 rfl rfl (Nat.le_of_ble_eq_true rfl) rfl (GR_nil) ?_;refine GT_store (vs := [_]) (l' := [_]) rfl rfl rfl rfl rfl rfl rfl sz_27 rfl rfl (Nat.le_of_ble_eq_true rfl) rfl (GR_nil) ?_;refine GT_nil ?_
              (try subst hob)
              refine GE_leave (some .ret) rfl (fun w hw => ⟨_, ⟨_, rfl, .inr ⟨rfl, hps.trans (ps1_len hrn (by first | exact .inl (by omega) | exact .inr (.inl (by omega)) | exact .inr (.inr (by omega)))), rfl⟩⟩, ?_⟩)
              exact hw.hs (HS.cons rfl (HS.cons rfl (HS.cons rfl (HS.last (I := G)))))
            · refine GT_st_g rfl rfl rfl rfl rfl rfl rfl (V_load rfl rfl ag_108 (CellAt.item rfl)) ?_;refine GT_st_g rfl rfl rfl rfl rfl rfl rfl (V_len rfl Tryz.underlying108 rfl) ?_;refine GT_st_g rfl rfl rfl rfl rfl rfl rfl (V_eql rfl rfl rfl) ?_;refine GT_st rfl rfl rfl rfl (V_pick_f rfl rfl rfl) ?_;refine GT_nil ?_;refine GE_cond rfl (fun q5 => ?_) (fun q5 => ?_)
              · refine GE_seq ?_;refine GE_slots (L' := [(4, _), (5, _)]) ⟨rfl, rfl, trivial⟩ ?_;refine GE_plain (.ld 0 [] (.ld 1 [] .nil)) rfl ?_;refine GT_store (vs := [_]) (l' := [_]) rfl rfl rfl rfl rfl rfl rfl sz_108 rfl rfl (Nat.le_of_ble_eq_true rfl) rfl (GR_nil) ?_;refine GT_store (vs := [_]) (l' := [_]) rfl rfl rfl rfl rfl rfl rfl sz_27 rfl rfl (Nat.le_of_ble_eq_true rfl) rfl (GR_nil) ?_;refine GT_nil ?_
                (try subst hob)
                refine GE_leave (some .ret) rfl (fun w hw => ⟨_, ⟨_, rfl, .inr ⟨rfl, hps.trans (ps1_len hrn (by first | exact .inl (by omega) | exact .inr (.inl (by omega)) | exact .inr (.inr (by omega)))), rfl⟩⟩, ?_⟩)
                exact hw.hs (HS.cons rfl (HS.cons rfl (HS.cons rfl (HS.last (I := G)))))
              · refine GE_skip ?_;refine GE_seq ?_;refine GE_slots (L' := [(4, _), (5, _), (7, _), (10, _), (12, _)]) ⟨rfl, rfl, rfl, rfl, rfl, trivial⟩ ?_;refine GE_gen (l := l5) (fun ob hob => ?_)
                refine GE_plain (.ld 0 [] .nil) rfl ?_;refine GT_alloc rfl rfl rfl rfl rfl zc_246 (fun _ => GR_nil) (fun b13 => ?_)
                refine GT_nil ?_;refine GE_seq ?_;refine GE_seq ?_;refine GE_plain (.st 0 .nil) rfl ?_;refine GT_st rfl rfl rfl rfl (V_assign rfl rfl) ?_;refine GT_nil ?_;refine GE_block ?_;refine GE_to (GE_loop (ι := Nat) (fun i => 8 - i) (fun i => [(4, ptr b4 0), (5, ptr b5 0), (7, ptr b7 0), (10, ptr b10 0), (12, .slice u.1 (pcs 32 (ln r)).length u.2.1), (13, ptr b13 0), (14, I i)]) (fun i => (b13, blk (nv (pcs 32 (ln r)) i) 246) :: (u.2.2 ++ ((l5, ob) :: (b10, blk [.slice A5 p.length c5] 108) :: (b27, mobj ks) :: (b7, blk [.map (some b27)] 240) :: (b4, blk [.slice none 0 0] 108) :: (b5, blk [I 0] 27) :: (I5 ++ G)))) (fun i => 2 ≤ i ∧ i ≤ 8) ?_ 2 ?_) ⟨rfl, rfl, rfl, rfl, rfl, rfl, rfl, trivial⟩ (HS.cons rfl (HS.chunk (HS.cons rfl (HS.cons rfl (HS.cons rfl (HS.cons rfl (HS.cons rfl (HS.cons rfl (HS.chunk HS.last)))))))))
                · rintro i ⟨hi2, hi8⟩ ih2
                  refine GE_seq ?_;refine GE_seq ?_;refine GE_plain (.st 0 (.st 1 .nil)) rfl ?_;refine GT_st rfl rfl rfl rfl (V_move rfl rfl) ?_;refine GT_st rfl rfl rfl rfl (V_lss rfl rfl rfl) ?_;refine GT_nil ?_;refine GE_cond rfl (fun q6 => ?_) (fun q6 => ?_)
                  · have hi : i < 8 := (by omega); have hgl : (gw (pcs 32 (ln r)) i).length ≤ (ln r).length := pcs_mem_le 32 _ _ (getD_mem (l := pcs 32 (ln r)) (i := i) (by omega))
                    refine GE_skip ?_;refine GE_seq ?_;refine GE_block ?_;refine GE_plain (.st 0 (.st 1 (.st 2 (.st 3 (.st 4 (.ld 5 [] (.st 6 (.st 7 (.st 8 (.st 9 (.ld 10 [] .nil))))))))))) rfl ?_;refine GT_st rfl rfl rfl rfl (V_move rfl rfl) ?_;refine GT_st rfl rfl rfl rfl (V_move rfl rfl) ?_;refine GT_st rfl rfl rfl rfl (V_move rfl rfl) ?_;refine GT_st rfl rfl rfl rfl (V_index rfl rfl rfl Tryz.underlying113 sz_9 (k := i) rfl (by omega) (hu.isSome (k := i) (by omega))) ?_;refine GT_st rfl rfl rfl rfl (V_load rfl rfl ag_9 (CellAt.own0 (k := i) hu eB_len (by omega) (gw_get (by omega)))) ?_;refine GT_call rfl rfl rfl rfl rfl rfl rfl rfl rn_107 (fun w hw => C_Atoi (E.sh hw) (by omega)) (fun _ _ => GR_nil) (fun er _ => ?_)
                    refine GT_st rfl rfl rfl rfl (V_move rfl rfl) ?_;refine GT_st rfl rfl rfl rfl (V_extract rfl rfl rfl) ?_;refine GT_st rfl rfl rfl rfl (V_extract rfl rfl rfl) ?_;refine GT_st rfl rfl rfl rfl (V_indexArr rfl rfl rfl Tryz.underlying246 sz_3 rfl (by omega)) ?_;refine GT_store (b := b13) (q := 0 + i * 1) (vs := [_]) (l := nv (pcs 32 (ln r)) i) (l' := nv (pcs 32 (ln r)) (i + 1)) rfl rfl rfl rfl rfl rfl rfl sz_3 rfl rfl (by rw [nv_len]; show 0 + i * 1 + 1 ≤ 8; omega) (nv_succ _ ⟨hi2, hi⟩) (GR_nil) ?_;refine GT_nil ?_;refine GE_inBlock ?_;refine GE_slots (L' := [(4, _), (5, _), (7, _), (10, _), (12, _), (13, _), (14, _)]) ⟨rfl, rfl, rfl, rfl, rfl, rfl, rfl, trivial⟩ ?_;refine GE_plain (.st 0 (.st 1 (.ld 2 [] .nil))) rfl ?_;refine GT_st rfl rfl rfl rfl (V_move rfl rfl) ?_;refine GT_st rfl rfl rfl rfl (V_add rfl rfl rfl (wrap_i64 (by omega))) ?_;refine GT_ldv rfl rfl rfl rfl rfl (V_assign rfl rfl) (GR_nil) ?_;refine GT_nil ?_
                    exact GE_to (ih2 (i + 1) ⟨by omega, by omega⟩ (by omega)) ⟨rfl, rfl, rfl, rfl, rfl, rfl, rfl, trivial⟩ (HS.cons rfl (HS.chunk (HS.cons rfl (HS.cons rfl (HS.cons rfl (HS.cons rfl (HS.cons rfl (HS.cons rfl (HS.chunk HS.last)))))))))
                  · obtain rfl : i = 8 := (by omega)
                    refine GE_exit rfl ?_;refine GE_seq ?_;refine GE_drawn (.st 0 (.st 1 (.st 2 (.st 3 (.st 4 (.st 5 (.st 6 (.st 7 (.st 8 (.st 9 .nil)))))))))) [] (by decide +kernel) ?_;refine GT_st rfl rfl rfl rfl (V_load rfl rfl ag_240 (CellAt.item rfl)) ?_;refine GT_st rfl rfl rfl rfl (V_move rfl rfl) ?_;refine GT_st rfl rfl rfl rfl (V_index (k := 1) rfl rfl rfl Tryz.underlying113 sz_9 rfl (by omega) (hu.isSome (k := 1) (by omega))) ?_;refine GT_st rfl rfl rfl rfl (V_load rfl rfl ag_9 (CellAt.own0 (k := 1) hu eB_len (by omega) (gw_get (by omega)))) ?_;refine GT_st rfl rfl rfl rfl (V_lookupOk rfl rfl rfl Tryz.underlying240 Tryz.underlying9 zv_3) ?_;refine GT_st rfl rfl rfl rfl (V_move rfl rfl) ?_;refine GT_st rfl rfl rfl rfl (V_extract rfl rfl rfl) ?_;refine GT_st rfl rfl rfl rfl (V_extract rfl rfl rfl) ?_;refine GT_st rfl rfl rfl rfl (V_assign rfl rfl) ?_;refine GT_st rfl rfl rfl rfl (V_assign rfl rfl) ?_;refine GT_nil ?_;refine GE_seq ?_;refine GE_seq ?_;refine GE_slots (L' := [(4, _), (5, _), (10, _), (13, _), (15, _), (16, _)]) ⟨rfl, rfl, rfl, rfl, rfl, rfl, trivial⟩ ?_;refine GE_plain (.st 0 (.st 1 .nil)) rfl ?_;refine GT_st rfl rfl rfl rfl (V_move rfl rfl) ?_;refine GT_st rfl rfl rfl rfl (V_notB rfl rfl) ?_;refine GT_nil ?_;refine GE_condNotB rfl (fun h3 => ?_) (fun h3 => ?_)
                    · have h4 : ix l (stz (gw (pcs 32 (ln r)) 1)) < 0 := (by have hh := mapOk_has hm1 (stz (gw (pcs 32 (ln r)) 1)); rcases (show ix l (stz (gw (pcs 32 (ln r)) 1)) < 0 ∨ 0 ≤ ix l (stz (gw (pcs 32 (ln r)) 1)) by omega) with q | q; exact q; rw [decide_eq_true q] at hh; simp [hh] at h3)
                      refine GE_seq ?_;refine GE_slots (L' := [(4, _), (5, _)]) ⟨rfl, rfl, trivial⟩ ?_;refine GE_plain (.ld 0 [] (.ld 1 [] .nil)) rfl ?_;refine GT_store (vs := [_]) (l' := [_]) rfl rfl rfl rfl rfl rfl rfl sz_108 rfl rfl (Nat.le_of_ble_eq_true rfl) rfl (GR_nil) ?_;refine GT_store (vs := [_]) (l' := [_]) rfl rfl rfl rfl rfl rfl rfl sz_27 rfl rfl (Nat.le_of_ble_eq_true rfl) rfl (GR_nil) ?_;refine GT_nil ?_
                      (try subst hob)
                      refine GE_leave (some .ret) rfl (fun w hw => ⟨_, ⟨_, rfl, .inr ⟨rfl, hps.trans (ps1_len hrn (by first | exact .inl (by omega) | exact .inr (.inl (by omega)) | exact .inr (.inr (by omega)))), rfl⟩⟩, ?_⟩)
                      exact hw.hs (HS.cons rfl (HS.cons rfl (HS.cons rfl (HS.last (I := G)))))
                    · have h4 : 0 ≤ ix l (stz (gw (pcs 32 (ln r)) 1)) := (by have hh := mapOk_has hm1 (stz (gw (pcs 32 (ln r)) 1)); rcases (show ix l (stz (gw (pcs 32 (ln r)) 1)) < 0 ∨ 0 ≤ ix l (stz (gw (pcs 32 (ln r)) 1)) by omega) with q | q; (rw [decide_eq_false (by omega)] at hh; simp [hh] at h3); exact q); rw [mapOk_get hm1 h4]
                      refine GE_skip ?_;refine GE_plain (.st 0 (.st 1 (.st 2 (.st 3 (.st 4 (.st 5 (.st 6 (.st 7 (.st 8 (.st 9 (.st 10 (.st 11 (.st 12 (.st 13 (.st 14 (.ld 15 [] (.ld 16 [] (.ld 17 [] .nil)))))))))))))))))) rfl ?_;refine GT_st rfl rfl rfl rfl (V_load rfl rfl ag_108 (CellAt.item rfl)) ?_;refine GT_st rfl rfl rfl rfl (V_move rfl rfl) ?_;refine GT_st rfl rfl rfl rfl (V_indexArr (kk := 2) rfl rfl rfl Tryz.underlying246 sz_3 rfl (by omega)) ?_;refine GT_st rfl rfl rfl rfl (V_load rfl rfl ag_3 (CellAt.item rfl)) ?_;refine GT_st rfl rfl rfl rfl (V_indexArr (kk := 3) rfl rfl rfl Tryz.underlying246 sz_3 rfl (by omega)) ?_;refine GT_st rfl rfl rfl rfl (V_load rfl rfl ag_3 (CellAt.item rfl)) ?_;refine GT_st rfl rfl rfl rfl (V_indexArr (kk := 4) rfl rfl rfl Tryz.underlying246 sz_3 rfl (by omega)) ?_;refine GT_st rfl rfl rfl rfl (V_load rfl rfl ag_3 (CellAt.item rfl)) ?_;refine GT_st rfl rfl rfl rfl (V_indexArr (kk := 5) rfl rfl rfl Tryz.underlying246 sz_3 rfl (by omega)) ?_;refine GT_st rfl rfl rfl rfl (V_load rfl rfl ag_3 (CellAt.item rfl)) ?_;refine GT_st rfl rfl rfl rfl (V_indexArr (kk := 6) rfl rfl rfl Tryz.underlying246 sz_3 rfl (by omega)) ?_;refine GT_st rfl rfl rfl rfl (V_load rfl rfl ag_3 (CellAt.item rfl)) ?_;refine GT_st rfl rfl rfl rfl (V_indexArr (kk := 7) rfl rfl rfl Tryz.underlying246 sz_3 rfl (by omega)) ?_;refine GT_st rfl rfl rfl rfl (V_load rfl rfl ag_3 (CellAt.item rfl)) ?_;refine GT_st rfl rfl rfl rfl (V_build (vs := [_, _, _, _, _, _, _]) rfl rfl zc_124 pl_124 sa_124 rfl) ?_;refine GT_buildSlice (z := [_, _, _, _, _, _, _]) rfl rfl rfl rfl rfl Tryz.underlying108 zc_124 sz_124 (by decide) rfl rfl (fun _ => GR_nil) (fun b93 => ?_)
                      refine GT_append (enc := ePrt) (m := [⟨ix l (stz (gw (pcs 32 (ln r)) 1)), sel (pcs 32 (ln r)) 8 2, sel (pcs 32 (ln r)) 8 3, sel (pcs 32 (ln r)) 8 4, sel (pcs 32 (ln r)) 8 5, sel (pcs 32 (ln r)) 8 6, sel (pcs 32 (ln r)) 8 7⟩]) rfl rfl rfl rfl rfl rfl rfl hO5 (fun w m => RdL.own' m ePrt_len) Tryz.underlying108 zc_124 sz_124 ⟨rfl, by decide⟩ by_124 ⟨by simp only [List.length_singleton]; omega, by simp only [List.length_singleton]; omega⟩ ePrt_len ePrt_one (fun _ _ _ _ => GR_nil) (fun A6 c6 I6 hO6 => ?_)
                      refine GT_store (vs := [_]) (l' := [_]) rfl rfl rfl rfl rfl rfl rfl sz_108 rfl rfl (Nat.le_of_ble_eq_true rfl) rfl (GR_nil) ?_;refine GT_nil ?_;refine GE_inBlock ?_
                      subst hob
                      refine GE_leave none rfl (fun w hw => ⟨_, ⟨_, rfl, .inl ⟨rfl, _, A6, c6, I6, ⟨by have := aft_lt hrn; omega, by rw [List.length_append, List.length_singleton]; omega⟩, hps.trans (ps1_next hrn (by omega) (by omega) (by omega)), hO6, rfl⟩⟩, ?_⟩)
                      exact hw.hs (HS.cons rfl (HS.cons rfl (HS.cons rfl (HS.cons rfl (HS.cons rfl (HS.cons rfl (HS.chunk HS.last)))))))
                · exact ⟨by omega, by omega⟩
          · subst hr0
            rcases hQ' with ⟨p, A5, c5, I5, ⟨_, hpl⟩, hps, hO5, rfl⟩ | ⟨hps, rfl⟩
            case inr =>
              refine ⟨_, [(b4, blk [.slice none 0 0] 108), (b5, blk [I 8] 27)], ?_, hw'.hs (HS.cons rfl (HS.cons rfl (HS.cons rfl (HS.cons rfl HS.nil)))), ?_⟩
              · intro h; cases h
              refine GE_D (D' := dq [q]) ?_ rfl
              refine GE_retq Tryz.func45 ⟨_, _, ⟨_, rfl, fun w m => run_loadVar_one ag_108 (CellAt.item rfl w m)⟩, ⟨_, rfl, fun w m => run_loadVar_one ag_27 (CellAt.item rfl w m)⟩, rfl⟩ (fun w hw => ?_)
              have e : pa1 l s = ([], 8) := (by rw [eU, hps])
              exact ⟨(none, 0, []), by rw [e]; exact Own.nil, by rw [e] <;> rfl, hw.nil⟩
            refine ⟨_, (b10, blk [.slice A5 p.length c5] 108) :: (b4, blk [.slice none 0 0] 108) :: (b5, blk [I 0] 27) :: I5, ?_, hw'.hs (HS.cons rfl (HS.cons rfl (HS.cons rfl (HS.cons rfl (HS.cons rfl HS.last))))), ?_⟩
            · intro h; cases h
            refine GE_D (D' := dq [q]) ?_ rfl
            refine GE_inBlock ?_;refine GE_seq ?_;refine GE_seq ?_;refine GE_plain (.st 0 (.st 1 (.ld 2 [] (.st 3 (.st 4 (.st 5 (.st 6 (.st 7 .nil)))))))) rfl ?_;refine GT_st rfl rfl rfl rfl (V_move rfl rfl) ?_;refine GT_st rfl rfl rfl rfl (V_load rfl rfl ag_108 (CellAt.item rfl)) ?_;refine GT_call0 rfl rfl rfl rfl rfl rfl rfl rfl rn_41 (fun w hw => C_Text (E.sh hw) (h.sh hw) (hO5.rdH ePrt_len hw)) (GR_nil) ?_;refine GT_st rfl rfl rfl rfl (V_move rfl rfl) ?_;refine GT_st rfl rfl rfl rfl (V_extract rfl rfl rfl) ?_;refine GT_st rfl rfl rfl rfl (V_extract rfl rfl rfl) ?_;refine GT_st rfl rfl rfl rfl (V_assign rfl rfl) ?_;refine GT_st rfl rfl rfl rfl (V_assign rfl rfl) ?_;refine GT_nil ?_;refine GE_seq ?_;refine GE_slots (L' := [(1, _), (4, _), (5, _), (10, _), (17, _), (18, _)]) ⟨rfl, rfl, rfl, rfl, rfl, rfl, trivial⟩ ?_;refine GE_plain (.st 0 (.st 1 (.st 2 (.st 3 (.st 4 (.st 5 (.st 6 .nil))))))) rfl ?_;refine GT_st rfl rfl rfl rfl (V_move rfl rfl) ?_;refine GT_st rfl rfl rfl rfl (V_neq rfl rfl rfl) ?_;refine GT_st rfl rfl rfl rfl (V_move rfl rfl) ?_;refine GT_splitNot (d := 103) rfl (fun q7 => ?_) (fun q7 => ?_)
            · refine GT_skip rfl rfl rfl rfl rfl (by decide) rfl rfl ?_;refine GT_skip rfl rfl rfl rfl rfl (by decide) rfl rfl ?_;refine GT_skip rfl rfl rfl rfl rfl (by decide) rfl rfl ?_;refine GT_st rfl rfl rfl rfl (V_pick_t rfl rfl rfl) ?_;refine GT_nil ?_;refine GE_cond_t rfl ?_;refine GE_seq ?_;refine GE_slots (L' := [(4, _), (5, _)]) ⟨rfl, rfl, trivial⟩ ?_;refine GE_plain (.ld 0 [] (.ld 1 [] .nil)) rfl ?_;refine GT_store (vs := [_]) (l' := [_]) rfl rfl rfl rfl rfl rfl rfl sz_108 rfl rfl (Nat.le_of_ble_eq_true rfl) rfl (GR_nil) ?_;refine GT_store (vs := [_]) (l' := [_]) rfl rfl rfl rfl rfl rfl rfl sz_27 rfl rfl (Nat.le_of_ble_eq_true rfl) rfl (GR_nil) ?_;refine GT_nil ?_;refine GE_retq Tryz.func45 ⟨_, _, ⟨_, rfl, fun w m => run_loadVar_one ag_108 (CellAt.item rfl w m)⟩, ⟨_, rfl, fun w m => run_loadVar_one ag_27 (CellAt.item rfl w m)⟩, rfl⟩ (fun w hw => ?_)
              have e : pa1 l s = ([], 8) := (by rw [eU, hps, rws_nil, ps1]; refine if_neg ?_; rintro ⟨e1, e2⟩; first | exact q7 e1 | (refine q8 ?_; rw [txt, if_pos e1, e2])); exact ⟨(none, 0, []), by rw [e]; exact Own.nil, by rw [e] <;> rfl, hw.nil⟩
            · refine GT_st_g rfl rfl rfl rfl rfl rfl rfl (V_move rfl rfl) ?_;refine GT_st_g rfl rfl rfl rfl rfl rfl rfl (V_move rfl rfl) ?_;refine GT_st_g rfl rfl rfl rfl rfl rfl rfl (V_neqStr rfl rfl rfl) ?_;refine GT_st rfl rfl rfl rfl (V_pick_f rfl rfl rfl) ?_;refine GT_nil ?_;refine GE_condNot rfl (fun q8 => ?_) (fun q8 => ?_)
              · refine GE_seq ?_;refine GE_slots (L' := [(4, _), (5, _)]) ⟨rfl, rfl, trivial⟩ ?_;refine GE_plain (.ld 0 [] (.ld 1 [] .nil)) rfl ?_;refine GT_store (vs := [_]) (l' := [_]) rfl rfl rfl rfl rfl rfl rfl sz_108 rfl rfl (Nat.le_of_ble_eq_true rfl) rfl (GR_nil) ?_;refine GT_store (vs := [_]) (l' := [_]) rfl rfl rfl rfl rfl rfl rfl sz_27 rfl rfl (Nat.le_of_ble_eq_true rfl) rfl (GR_nil) ?_;refine GT_nil ?_;refine GE_retq Tryz.func45 ⟨_, _, ⟨_, rfl, fun w m => run_loadVar_one ag_108 (CellAt.item rfl w m)⟩, ⟨_, rfl, fun w m => run_loadVar_one ag_27 (CellAt.item rfl w m)⟩, rfl⟩ (fun w hw => ?_)
                have e : pa1 l s = ([], 8) := (by rw [eU, hps, rws_nil, ps1]; refine if_neg ?_; rintro ⟨e1, e2⟩; first | exact q7 e1 | (refine q8 ?_; rw [txt, if_pos e1, e2])); exact ⟨(none, 0, []), by rw [e]; exact Own.nil, by rw [e] <;> rfl, hw.nil⟩
              · refine GE_skip ?_;refine GE_seq ?_;refine GE_slots (L' := [(4, _), (5, _), (10, _)]) ⟨rfl, rfl, rfl, trivial⟩ ?_;refine GE_plain (.st 0 (.ld 1 [] (.ld 2 [] .nil))) rfl ?_;refine GT_st rfl rfl rfl rfl (V_load rfl rfl ag_108 (CellAt.item rfl)) ?_;refine GT_store (vs := [_]) (l' := [_]) rfl rfl rfl rfl rfl rfl rfl sz_108 rfl rfl (Nat.le_of_ble_eq_true rfl) rfl (GR_nil) ?_;refine GT_store (vs := [_]) (l' := [_]) rfl rfl rfl rfl rfl rfl rfl sz_27 rfl rfl (Nat.le_of_ble_eq_true rfl) rfl (GR_nil) ?_;refine GT_nil ?_;refine GE_retq Tryz.func45 ⟨_, _, ⟨_, rfl, fun w m => run_loadVar_one ag_108 (CellAt.item rfl w m)⟩, ⟨_, rfl, fun w m => run_loadVar_one ag_27 (CellAt.item rfl w m)⟩, rfl⟩ (fun w hw => ?_)
                have e : pa1 l s = (p, 0) := (by rw [eU, hps, rws_nil, ps1]; refine if_pos ⟨q7, ?_⟩; have q9 := stz_inj.1 q8; rw [txt, if_pos q7] at q9; exact q9); exact ⟨(A5, c5, I5), by rw [e]; exact hO5, by rw [e] <;> rfl, hw.hs (C := cx Tryz.prog hm 0 0 _ none' fun _ _ => True) HS.last⟩
      · exact ⟨Nat.zero_le _, mapOk_0 l⟩
end
end Go.Proofs.YtpbflnfcgcldkaaGreatDoor.Take
/- The document's check of folds; contracts at the arguments of TopInsert. -/
namespace Go.Proofs.YtpbflnfcgcldkaaGreatDoor.Ins
open Go.Sx Go.Proofs Go.RowKit
open Slv (pagesL pageN stk FoldsOk Leaf GrowsAt eLeaf)
open Take (Tk Prt tx txt lnB rowB pcs pcs_tx prog_each gErr Tks ePrt eB Env)
open Side (eN eN_len eN_one getD_memT)
section
variable {w : World} {A A2 : Option Addr} {c c2 : Nat} {f : List Int} {l : List Tk} {p : List Prt}
theorem C_rFolds (hr : RdL w 1 eN A f) : Con Tryz.prog 40 [.slice A f.length c] w (fun e : Int => e = 0 → FoldsOk f) (fun e => I e) (fun _ => []) := by
  refine Ret_of (vs := [_]) hm none' Tryz.func40 rfl Tryz.ntmps40 rfl ?_
  dsimp only [slotsOf]
  refine GE_seq ?_;refine GE_plain (.st 0 .nil) rfl ?_;refine GT_st rfl rfl rfl rfl (V_assign rfl rfl) ?_;refine GT_nil ?_;refine GE_seq ?_;refine GE_seq ?_;refine GE_plain (.st 0 (.st 1 (.st 2 (.st 3 (.st 4 (.st 5 (.st 6 (.st 7 .nil)))))))) rfl ?_;refine GT_st rfl rfl rfl rfl (V_move rfl rfl) ?_;refine GT_st rfl rfl rfl rfl (V_len rfl Tryz.underlying38 rfl) ?_;refine GT_st rfl rfl rfl rfl (V_eql rfl rfl rfl) ?_;refine GT_st rfl rfl rfl rfl (V_move rfl rfl) ?_;refine GT_split (d := 7) rfl (fun q1 => ?_) (fun q1 => ?_)
  · refine GT_skip rfl rfl rfl rfl rfl (by decide) rfl rfl ?_;refine GT_skip rfl rfl rfl rfl rfl (by decide) rfl rfl ?_;refine GT_skip rfl rfl rfl rfl rfl (by decide) rfl rfl ?_;refine GT_st rfl rfl rfl rfl (V_pick_t rfl rfl rfl) ?_;refine GT_nil ?_;refine GE_cond_t rfl ?_;refine GE_seq ?_;refine GE_slots (L' := []) trivial ?_;refine GE_plain (.st 0 .nil) rfl ?_;refine GT_st rfl rfl rfl rfl (V_assign rfl rfl) ?_;refine GT_nil ?_;refine GE_ret Tryz.func40 rfl (fun w hw => ?_)
    exact ⟨6, fun q => (by cases q), rfl, hw.nil⟩
  · refine GT_st_g rfl rfl rfl rfl rfl rfl rfl (V_move rfl rfl) ?_;refine GT_st_g rfl rfl rfl rfl rfl rfl rfl (V_len rfl Tryz.underlying38 rfl) ?_;refine GT_st_g rfl rfl rfl rfl rfl rfl rfl (V_gtr rfl rfl rfl) ?_;refine GT_st rfl rfl rfl rfl (V_pick_f rfl rfl rfl) ?_;refine GT_nil ?_;refine GE_cond rfl (fun q2 => ?_) (fun q2 => ?_)
    · refine GE_seq ?_;refine GE_slots (L' := []) trivial ?_;refine GE_plain (.st 0 .nil) rfl ?_;refine GT_st rfl rfl rfl rfl (V_assign rfl rfl) ?_;refine GT_nil ?_;refine GE_ret Tryz.func40 rfl (fun w hw => ?_)
      exact ⟨6, fun q => (by cases q), rfl, hw.nil⟩
    · refine GE_skip ?_;refine GE_seq ?_;refine GE_seq ?_;refine GE_slots (L' := [(0, _)]) ⟨rfl, trivial⟩ ?_;refine GE_plain (.st 0 .nil) rfl ?_;refine GT_st rfl rfl rfl rfl (V_assign rfl rfl) ?_;refine GT_nil ?_;refine GE_block ?_;refine GE_to (GE_loop (ι := Nat) (fun z => f.length - z) (fun z => [(0, .slice A f.length c), (3, I z)]) (fun z => []) (fun z => z ≤ f.length ∧ ∀ j, j < z → f.getD j default = 1 ∨ f.getD j default = 2) ?_ 0 ?_) ⟨rfl, rfl, trivial⟩ HS.nil
      · rintro i ⟨hi, hA⟩ ih
        refine GE_seq ?_;refine GE_seq ?_;refine GE_plain (.st 0 (.st 1 (.st 2 (.st 3 .nil)))) rfl ?_;refine GT_st rfl rfl rfl rfl (V_move rfl rfl) ?_;refine GT_st rfl rfl rfl rfl (V_move rfl rfl) ?_;refine GT_st rfl rfl rfl rfl (V_len rfl Tryz.underlying38 rfl) ?_;refine GT_st rfl rfl rfl rfl (V_lss rfl rfl rfl) ?_;refine GT_nil ?_;refine GE_cond rfl (fun q3 => ?_) (fun q3 => ?_)
        · have hil : i < f.length := (by omega)
          refine GE_skip ?_;refine GE_seq ?_;refine GE_block ?_;refine GE_seq ?_;refine GE_slots (L' := [(0, _), (3, _)]) ⟨rfl, rfl, trivial⟩ ?_;refine GE_plain (.st 0 (.st 1 (.st 2 (.st 3 (.st 4 (.st 5 (.st 6 (.st 7 (.st 8 (.st 9 (.st 10 (.st 11 .nil)))))))))))) rfl ?_;refine GT_st rfl rfl rfl rfl (V_move rfl rfl) ?_;refine GT_st rfl rfl rfl rfl (V_move rfl rfl) ?_;refine GT_st rfl rfl rfl rfl (V_index rfl rfl rfl Tryz.underlying38 sz_3 rfl hil (hr.isSome (k := i) hil)) ?_;refine GT_st rfl rfl rfl rfl (V_load rfl rfl ag_3 (hr.at0 (k := i) noM hil rfl)) ?_;refine GT_st rfl rfl rfl rfl (V_neq rfl rfl rfl) ?_;refine GT_st rfl rfl rfl rfl (V_move rfl rfl) ?_;refine GT_splitNot (d := 23) rfl (fun q4 => ?_) (fun q4 => ?_)
          · refine GT_st_g rfl rfl rfl rfl rfl rfl rfl (V_move rfl rfl) ?_;refine GT_st_g rfl rfl rfl rfl rfl rfl rfl (V_move rfl rfl) ?_;refine GT_st_g rfl rfl rfl rfl rfl rfl rfl (V_index rfl rfl rfl Tryz.underlying38 sz_3 rfl hil (hr.isSome (k := i) hil)) ?_;refine GT_st_g rfl rfl rfl rfl rfl rfl rfl (V_load rfl rfl ag_3 (hr.at0 (k := i) noM hil rfl)) ?_;refine GT_st_g rfl rfl rfl rfl rfl rfl rfl (V_neq rfl rfl rfl) ?_;refine GT_st rfl rfl rfl rfl (V_pick_t rfl rfl rfl) ?_;refine GT_nil ?_;refine GE_condNot rfl (fun q5 => ?_) (fun q5 => ?_)
            · refine GE_seq ?_;refine GE_slots (L' := []) trivial ?_;refine GE_plain (.st 0 .nil) rfl ?_;refine GT_st rfl rfl rfl rfl (V_assign rfl rfl) ?_;refine GT_nil ?_;refine GE_ret Tryz.func40 rfl (fun w hw => ?_)
              exact ⟨2, fun q => (by cases q), rfl, hw.nil⟩
            · refine GE_skip ?_;refine GE_inBlock ?_;refine GE_slots (L' := [(0, _), (3, _), (24, _), (25, _), (26, _), (27, _), (28, _)]) ⟨rfl, rfl, rfl, rfl, rfl, rfl, rfl, trivial⟩ ?_;refine GE_plain (.st 0 (.st 1 (.ld 2 [] .nil))) rfl ?_;refine GT_st rfl rfl rfl rfl (V_move rfl rfl) ?_;refine GT_st rfl rfl rfl rfl (V_add rfl rfl rfl (wrap_i64 (by omega))) ?_;refine GT_ldv rfl rfl rfl rfl rfl (V_assign rfl rfl) (GR_nil) ?_;refine GT_nil ?_
              exact GE_to (ih (i + 1) ⟨by omega, fun j hj => by rcases (show j < i ∨ j = i by omega) with h | rfl; exact hA j h; omega⟩ (by omega)) ⟨rfl, rfl, trivial⟩ HS.nil
          · refine GT_skip rfl rfl rfl rfl rfl (by decide) rfl rfl ?_;refine GT_skip rfl rfl rfl rfl rfl (by decide) rfl rfl ?_;refine GT_skip rfl rfl rfl rfl rfl (by decide) rfl rfl ?_;refine GT_skip rfl rfl rfl rfl rfl (by decide) rfl rfl ?_;refine GT_skip rfl rfl rfl rfl rfl (by decide) rfl rfl ?_;refine GT_st rfl rfl rfl rfl (V_pick_f rfl rfl rfl) ?_;refine GT_nil ?_;refine GE_cond_f rfl ?_;refine GE_skip ?_;refine GE_inBlock ?_;refine GE_slots (L' := [(0, _), (3, _), (24, _), (25, _), (26, _), (27, _), (28, _)]) ⟨rfl, rfl, rfl, rfl, rfl, rfl, rfl, trivial⟩ ?_;refine GE_plain (.st 0 (.st 1 (.ld 2 [] .nil))) rfl ?_;refine GT_st rfl rfl rfl rfl (V_move rfl rfl) ?_;refine GT_st rfl rfl rfl rfl (V_add rfl rfl rfl (wrap_i64 (by omega))) ?_;refine GT_ldv rfl rfl rfl rfl rfl (V_assign rfl rfl) (GR_nil) ?_;refine GT_nil ?_
            exact GE_to (ih (i + 1) ⟨by omega, fun j hj => by rcases (show j < i ∨ j = i by omega) with h | rfl; exact hA j h; omega⟩ (by omega)) ⟨rfl, rfl, trivial⟩ HS.nil
        · obtain rfl : i = f.length := (by omega)
          refine GE_exit rfl ?_;refine GE_seq ?_;refine GE_slots (L' := []) trivial ?_;refine GE_plain (.st 0 .nil) rfl ?_;refine GT_st rfl rfl rfl rfl (V_assign rfl rfl) ?_;refine GT_nil ?_;refine GE_ret Tryz.func40 rfl (fun w hw => ?_)
          exact ⟨0, fun _ => ⟨by omega, by omega, fun k hk => by obtain ⟨j, hj, rfl⟩ := List.mem_iff_getElem.1 hk; have := hA j hj; rwa [List.getD, List.getElem?_eq_getElem hj] at this⟩, rfl, hw.nil⟩
      · exact ⟨Nat.zero_le _, fun j hj => by omega⟩
theorem C_TextOk (E : Env w) (h : Tks w A l) (hp : RdL w 7 ePrt A2 p) (hg : gErr l p = 0) : Con0 Tryz.prog 41 [.slice A l.length c, .slice A2 p.length c2] w (.tuple #[.string (stz (tx l p)), I 0]) := by
  have q := Take.C_Text (c := c) (c2 := c2) E h hp
  rw [hg, txt, if_pos hg] at q
  exact q
theorem C_Lines (hg : gErr l p = 0) (hn : p.length ≤ 8) : Con Tryz.prog 42 [.string (stz (tx l p)), .int .u8 10, I 40] w (fun y : Option Addr × Nat × Items => Own 1 9 eB (p.map (rowB l) ++ [[]]) (.slice y.1 (p.length + 1) y.2.1) y.2.2) (fun y => .slice y.1 (p.length + 1) y.2.1) (fun y => y.2.2) := by
  obtain ⟨hl, _, he⟩ := prog_each hg
  have q := Take.C_Cut (s := tx l p) (c := 10) (m := 40) (w := w) (by have := Take.tx_len hg; omega) (by decide)
  rw [pcs_tx hl p he, List.take_of_length_le (by rw [lines_len]; omega), lines_len] at q
  exact q
theorem C_ParseOk (E : Env w) (h : Tks w A l) (hg : gErr l p = 0) : Con Tryz.prog 45 [.slice A l.length c, .string (stz (tx l p))] w (fun y : Option Addr × Nat × Items => Own 7 124 ePrt p (.slice y.1 p.length y.2.1) y.2.2) (fun y => .tuple #[.slice y.1 p.length y.2.1, I 0]) (fun y => y.2.2) := by
  have q := Take.C_Parse (s := tx l p) (c := c) E h (by have := Take.tx_len hg; omega)
  rw [Take.pa1_tx hg] at q
  exact q
theorem C_PageS {r cc : Int} {bk : Bool} {i : Nat} (hG : GrowsAt w) (hf : FoldsOk f) (hr : RdL w 1 eN A f) (hp : pageN f r cc bk = some i) : Con0 Tryz.prog 44 [.slice A f.length c, I r, I cc, .bool bk] w (.tuple #[I (i + 1 : Nat), I 0]) := by
  have q := Slv.C_Page (c := c) (r := r) (cc := cc) (bk := bk) hG hf hr
  rw [hp] at q
  exact q
end
end Go.Proofs.YtpbflnfcgcldkaaGreatDoor.Ins
/- The law TopInsert, walked. -/
namespace Go.Proofs.YtpbflnfcgcldkaaGreatDoor.Ins
open Go.Sx Go.Proofs Go.RowKit
open Slv (pagesL pageN stk FoldsOk Leaf GrowsAt eLeaf eLeaf_len)
open Take (Tk Prt tx txt lnB rowB pcs pcs_tx prog_each gErr Tks ePrt ePrt_len eB eB_len eB_one Env)
open Side (eN eN_len eN_one getD_memT)
theorem shl_ok {f : List Int} (h : f.length ≤ 5) : IntKind.wrap .i64 (2 * 2 ^ f.length) = ((pagesL f).length : Int) := by
  rw [Slv.pagesL_len]
  have : f.length = 0 ∨ f.length = 1 ∨ f.length = 2 ∨ f.length = 3 ∨ f.length = 4 ∨ f.length = 5 := by omega
  rcases this with e | e | e | e | e | e <;> rw [e] <;> decide
theorem ip_prt : isPrims Tryz.prog 124 7 = true := by kernel_rfl
theorem nat_mul {a b : Nat} : (a : Int) * (b : Int) = ((a * b : Nat) : Int) := (Int.natCast_mul a b).symm
theorem lnP_bb {l : List Tk} {p : List Prt} {i : Nat} : decide ((i : Int) < (p.length : Int)) = decide (¬ stz (lnP l p i) = ⟨#[]⟩) := by
  by_cases hip : i < p.length
  · rw [decide_eq_true (show (i : Int) < p.length by omega), decide_eq_true]
    exact fun q => lnP_ne hip (stz_inj.1 (q.trans (show _ = stz [] from rfl)))
  · rw [decide_eq_false (show ¬ (i : Int) < p.length by omega), decide_eq_false]
    exact fun q => q (by rw [lnP_nil hip])
section
variable {w : World} {A A2 A3 : Option Addr} {c c2 c3 : Nat} {f : List Int} {l : List Tk} {p : List Prt}
set_option maxRecDepth 20000 in
set_option maxHeartbeats 4000000 in
theorem C_TopInsert (E : Env w) (hG : GrowsAt w) (h : Tks w A l) (hp : RdL w 7 ePrt A2 p) (hr3 : RdL w 1 eN A3 f) : Con0 Tryz.prog 7 [.slice A l.length c, .slice A2 p.length c2, .slice A3 f.length c3] w (.bool true) := by
  refine Ret_of (vs := [_, _, _]) hm none' Tryz.func7 rfl Tryz.ntmps7 rfl ?_
  dsimp only [slotsOf]
  refine GE_seq ?_;refine GE_plain (.st 0 .nil) rfl ?_;refine GT_st rfl rfl rfl rfl (V_assign rfl rfl) ?_;refine GT_nil ?_;refine GE_seq ?_;refine GE_seq ?_;refine GE_plain (.st 0 (.st 1 (.st 2 (.st 3 (.st 4 (.st 5 (.ld 6 [] (.st 7 (.st 8 (.st 9 (.st 10 (.ld 11 [] (.st 12 (.st 13 .nil)))))))))))))) rfl ?_;refine GT_st rfl rfl rfl rfl (V_move rfl rfl) ?_;refine GT_st rfl rfl rfl rfl (V_len rfl Tryz.underlying108 rfl) ?_;refine GT_st rfl rfl rfl rfl (V_gtr rfl rfl rfl) ?_;refine GT_st rfl rfl rfl rfl (V_move rfl rfl) ?_;refine GT_split (d := 29) rfl (fun q1 => ?_) (fun q1 => ?_)
  · refine GT_skip rfl rfl rfl rfl rfl (by decide) rfl rfl ?_;refine GT_skip rfl rfl rfl rfl rfl (by decide) rfl rfl ?_;refine GT_skip_ld rfl rfl rfl rfl rfl (by decide) rfl rfl rfl (GR_nil) ?_;refine GT_skip rfl rfl rfl rfl rfl (by decide) rfl rfl ?_;refine GT_st rfl rfl rfl rfl (V_pick_t rfl rfl rfl) ?_;refine GT_st rfl rfl rfl rfl (V_move rfl rfl) ?_;refine GT_skip rfl rfl rfl rfl rfl (by decide) rfl rfl ?_;refine GT_skip_ld rfl rfl rfl rfl rfl (by decide) rfl rfl rfl (GR_nil) ?_;refine GT_skip rfl rfl rfl rfl rfl (by decide) rfl rfl ?_;refine GT_st rfl rfl rfl rfl (V_pick_t rfl rfl rfl) ?_;refine GT_nil ?_;refine GE_cond_t rfl ?_;refine GE_seq ?_;refine GE_slots (L' := []) trivial ?_;refine GE_plain (.ld 0 [] (.st 1 .nil)) rfl ?_;refine GT_call0 rfl rfl rfl rfl rfl rfl rfl rfl rn_30 (fun w hw => Wks.C_works10 (hG.sh hw)) (GR_nil) ?_;refine GT_st rfl rfl rfl rfl (V_assign rfl rfl) ?_;refine GT_nil ?_;refine GE_ret Tryz.func7 rfl (fun w hw => ⟨?_, hw.nil⟩)
    rfl
  · refine GT_st_g rfl rfl rfl rfl rfl rfl rfl (V_move rfl rfl) ?_;refine GT_st_g rfl rfl rfl rfl rfl rfl rfl (V_move rfl rfl) ?_;refine GT_call0_g rfl rfl rfl rfl rfl rfl rfl rfl rfl rfl rfl rn_39 (fun w hw => Take.C_rCheckProgramme (h.sh hw) (hp.sh hw)) (GR_nil) ?_;refine GT_st_g rfl rfl rfl rfl rfl rfl rfl (V_neq rfl rfl rfl) ?_;refine GT_st rfl rfl rfl rfl (V_pick_f rfl rfl rfl) ?_;refine GT_st rfl rfl rfl rfl (V_move rfl rfl) ?_;refine GT_splitNot (d := 35) rfl (fun q2 => ?_) (fun q2 => ?_)
    · refine GT_skip rfl rfl rfl rfl rfl (by decide) rfl rfl ?_;refine GT_skip_ld rfl rfl rfl rfl rfl (by decide) rfl rfl rfl (GR_nil) ?_;refine GT_skip rfl rfl rfl rfl rfl (by decide) rfl rfl ?_;refine GT_st rfl rfl rfl rfl (V_pick_t rfl rfl rfl) ?_;refine GT_nil ?_;refine GE_cond_t rfl ?_;refine GE_seq ?_;refine GE_slots (L' := []) trivial ?_;refine GE_plain (.ld 0 [] (.st 1 .nil)) rfl ?_;refine GT_call0 rfl rfl rfl rfl rfl rfl rfl rfl rn_30 (fun w hw => Wks.C_works10 (hG.sh hw)) (GR_nil) ?_;refine GT_st rfl rfl rfl rfl (V_assign rfl rfl) ?_;refine GT_nil ?_;refine GE_ret Tryz.func7 rfl (fun w hw => ⟨?_, hw.nil⟩)
      rfl
    · refine GT_st_g rfl rfl rfl rfl rfl rfl rfl (V_move rfl rfl) ?_;refine GT_call_g rfl rfl rfl rfl rfl rfl rfl rfl rfl rfl rfl rn_40 (fun w hw => C_rFolds (hr3.sh hw)) (fun _ _ => GR_nil) (fun e he => ?_)
      refine GT_st_g rfl rfl rfl rfl rfl rfl rfl (V_neq rfl rfl rfl) ?_;refine GT_st rfl rfl rfl rfl (V_pick_f rfl rfl rfl) ?_;refine GT_nil ?_;refine GE_condNot rfl (fun q3 => ?_) (fun q3 => ?_)
      · refine GE_seq ?_;refine GE_slots (L' := []) trivial ?_;refine GE_plain (.ld 0 [] (.st 1 .nil)) rfl ?_;refine GT_call0 rfl rfl rfl rfl rfl rfl rfl rfl rn_30 (fun w hw => Wks.C_works10 (hG.sh hw)) (GR_nil) ?_;refine GT_st rfl rfl rfl rfl (V_assign rfl rfl) ?_;refine GT_nil ?_;refine GE_ret Tryz.func7 rfl (fun w hw => ⟨?_, hw.nil⟩)
        rfl
      · have hF := he (by omega); have hg : gErr l p = 0 := (by omega); have h5 : f.length ≤ 5 := hF.2.1; have htl := Take.tx_len hg
        refine GE_skip ?_;refine GE_seq ?_;refine GE_slots (L' := [(0, _), (1, _), (2, _)]) ⟨rfl, rfl, rfl, trivial⟩ ?_;refine GE_plain (.st 0 (.st 1 (.ld 2 [] (.st 3 (.st 4 (.st 5 (.st 6 (.st 7 .nil)))))))) rfl ?_;refine GT_st rfl rfl rfl rfl (V_move rfl rfl) ?_;refine GT_st rfl rfl rfl rfl (V_move rfl rfl) ?_;refine GT_call0 rfl rfl rfl rfl rfl rfl rfl rfl rn_41 (fun w hw => C_TextOk (E.sh hw) (h.sh hw) (hp.sh hw) hg) (GR_nil) ?_;refine GT_st rfl rfl rfl rfl (V_move rfl rfl) ?_;refine GT_st rfl rfl rfl rfl (V_extract rfl rfl rfl) ?_;refine GT_st rfl rfl rfl rfl (V_extract rfl rfl rfl) ?_;refine GT_st rfl rfl rfl rfl (V_assign rfl rfl) ?_;refine GT_st rfl rfl rfl rfl (V_assign rfl rfl) ?_;refine GT_nil ?_;refine GE_seq ?_;refine GE_seq ?_;refine GE_slots (L' := [(0, _), (1, _), (2, _), (7, _), (8, _)]) ⟨rfl, rfl, rfl, rfl, rfl, trivial⟩ ?_;refine GE_plain (.st 0 (.st 1 .nil)) rfl ?_;refine GT_st rfl rfl rfl rfl (V_move rfl rfl) ?_;refine GT_st rfl rfl rfl rfl (V_isF (V_neq rfl rfl rfl) (fun q => q rfl)) ?_;refine GT_nil ?_;refine GE_cond_f rfl ?_;refine GE_skip ?_;refine GE_seq ?_;refine GE_plain (.st 0 (.ld 1 [] (.st 2 .nil))) rfl ?_;refine GT_st rfl rfl rfl rfl (V_move rfl rfl) ?_;refine GT_call rfl rfl rfl rfl rfl rfl rfl rfl rn_42 (fun w hw => C_Lines hg (by omega)) (fun _ _ => GR_nil) (fun yl hyl => ?_)
        refine GT_st rfl rfl rfl rfl (V_assign rfl rfl) ?_;refine GT_nil ?_;refine GE_seq ?_;refine GE_slots (L' := [(0, _), (1, _), (2, _), (7, _), (9, _)]) ⟨rfl, rfl, rfl, rfl, rfl, trivial⟩ ?_;refine GE_plain (.st 0 (.ld 1 [] (.st 2 (.st 3 (.st 4 (.st 5 (.st 6 .nil))))))) rfl ?_;refine GT_st rfl rfl rfl rfl (V_move rfl rfl) ?_;refine GT_call rfl rfl rfl rfl rfl rfl rfl rfl rn_43 (fun w hw => Slv.C_Pages (hG.sh hw) hF (hr3.sh hw)) (fun _ _ => GR_nil) (fun yp hyp => ?_)
        refine GT_st rfl rfl rfl rfl (V_move rfl rfl) ?_;refine GT_st rfl rfl rfl rfl (V_extract rfl rfl rfl) ?_;refine GT_st rfl rfl rfl rfl (V_extract rfl rfl rfl) ?_;refine GT_st rfl rfl rfl rfl (V_assign rfl rfl) ?_;refine GT_st rfl rfl rfl rfl (V_assign rfl rfl) ?_;refine GT_nil ?_;refine GE_seq ?_;refine GE_seq ?_;refine GE_slots (L' := [(0, _), (1, _), (2, _), (7, _), (8, _), (9, _), (10, _)]) ⟨rfl, rfl, rfl, rfl, rfl, rfl, rfl, trivial⟩ ?_;refine GE_plain (.st 0 (.st 1 (.st 2 (.st 3 (.st 4 (.st 5 (.st 6 (.st 7 (.st 8 (.st 9 (.st 10 (.st 11 (.st 12 (.st 13 (.st 14 (.st 15 (.st 16 (.st 17 .nil)))))))))))))))))) rfl ?_;refine GT_st rfl rfl rfl rfl (V_move rfl rfl) ?_;refine GT_st rfl rfl rfl rfl (V_isF (V_neq rfl rfl rfl) (fun q => q rfl)) ?_;refine GT_st rfl rfl rfl rfl (V_move rfl rfl) ?_;refine GT_st_g rfl rfl rfl rfl rfl rfl rfl (V_move rfl rfl) ?_;refine GT_st_g rfl rfl rfl rfl rfl rfl rfl (V_len rfl Tryz.underlying115 rfl) ?_;refine GT_st_g rfl rfl rfl rfl rfl rfl rfl (V_move rfl rfl) ?_;refine GT_st_g rfl rfl rfl rfl rfl rfl rfl (V_len rfl Tryz.underlying38 rfl) ?_;refine GT_st_g rfl rfl rfl rfl rfl rfl rfl (V_shl (s := f.length) rfl rfl rfl (by show f.length ≤ 64; omega) (shl_ok h5)) ?_;refine GT_st_g rfl rfl rfl rfl rfl rfl rfl (V_isF (V_neq rfl rfl rfl) (fun q => q rfl)) ?_;refine GT_st rfl rfl rfl rfl (V_pick_f rfl rfl rfl) ?_;refine GT_st rfl rfl rfl rfl (V_move rfl rfl) ?_;refine GT_st_g rfl rfl rfl rfl rfl rfl rfl (V_move rfl rfl) ?_;refine GT_st_g rfl rfl rfl rfl rfl rfl rfl (V_len rfl Tryz.underlying113 rfl) ?_;refine GT_st_g rfl rfl rfl rfl rfl rfl rfl (V_move rfl rfl) ?_;refine GT_st_g rfl rfl rfl rfl rfl rfl rfl (V_len rfl Tryz.underlying108 rfl) ?_;refine GT_st_g rfl rfl rfl rfl rfl rfl rfl (V_add rfl rfl rfl (wrap_i64 (by omega))) ?_
        refine GT_st_g rfl rfl rfl rfl rfl rfl rfl (V_isF (V_neq rfl rfl rfl) (by omega)) ?_;refine GT_st rfl rfl rfl rfl (V_pick_f rfl rfl rfl) ?_;refine GT_nil ?_;refine GE_cond_f rfl ?_;refine GE_skip ?_;refine GE_seq ?_;refine GE_seq ?_;refine GE_slots (L' := [(0, _), (1, _), (2, _), (7, _), (9, _), (10, _)]) ⟨rfl, rfl, rfl, rfl, rfl, rfl, trivial⟩ ?_;refine GE_plain (.st 0 (.st 1 (.st 2 (.st 3 (.st 4 .nil))))) rfl ?_;refine GT_st rfl rfl rfl rfl (V_move rfl rfl) ?_;refine GT_st rfl rfl rfl rfl (V_len rfl Tryz.underlying108 rfl) ?_;refine GT_st rfl rfl rfl rfl (V_move rfl rfl) ?_;refine GT_st rfl rfl rfl rfl (V_len rfl Tryz.underlying115 rfl) ?_;refine GT_st rfl rfl rfl rfl (V_gtr rfl rfl rfl) ?_;refine GT_nil ?_;refine GE_cond rfl (fun q4 => ?_) (fun q4 => ?_)
        · refine GE_seq ?_;refine GE_slots (L' := []) trivial ?_;refine GE_plain (.ld 0 [] (.st 1 .nil)) rfl ?_;refine GT_call0 rfl rfl rfl rfl rfl rfl rfl rfl rn_30 (fun w hw => Wks.C_works10 (hG.sh hw)) (GR_nil) ?_;refine GT_st rfl rfl rfl rfl (V_assign rfl rfl) ?_;refine GT_nil ?_;refine GE_ret Tryz.func7 rfl (fun w hw => ⟨?_, hw.nil⟩)
          rfl
        · have hrc := gRC h5; have hgr := gR_is h5; have hgc := gC_is h5
          refine GE_skip ?_;refine GE_seq ?_;refine GE_slots (L' := [(0, _), (1, _), (2, _), (7, _), (9, _), (10, _)]) ⟨rfl, rfl, rfl, rfl, rfl, rfl, trivial⟩ ?_;refine GE_plain (.st 0 (.st 1 .nil)) rfl ?_;refine GT_st rfl rfl rfl rfl (V_assign rfl rfl) ?_;refine GT_st rfl rfl rfl rfl (V_assign rfl rfl) ?_;refine GT_nil ?_;refine GE_seq ?_;refine GE_seq ?_;refine GE_plain (.st 0 .nil) rfl ?_;refine GT_st rfl rfl rfl rfl (V_assign rfl rfl) ?_;refine GT_nil ?_;refine GE_block ?_;refine GE_to (GE_loop (ι := Nat) (fun z => f.length - z) (fun z => [(0, .slice A l.length c), (1, .slice A2 p.length c2), (2, .slice A3 f.length c3), (7, .string (stz (tx l p))), (9, .slice yl.1 (p.length + 1) yl.2.1), (10, .slice yp.1 (pagesL f).length yp.2.1), (11, I (gR (f.take z))), (12, I (gC (f.take z))), (13, I z)]) (fun z => yp.2.2 ++ yl.2.2) (fun z => z ≤ f.length) ?_ 0 ?_) ⟨rfl, rfl, rfl, rfl, rfl, rfl, rfl, rfl, rfl, trivial⟩ (HS.chunk HS.last)
          · rintro i hi ih
            refine GE_seq ?_;refine GE_seq ?_;refine GE_plain (.st 0 (.st 1 (.st 2 (.st 3 .nil)))) rfl ?_;refine GT_st rfl rfl rfl rfl (V_move rfl rfl) ?_;refine GT_st rfl rfl rfl rfl (V_move rfl rfl) ?_;refine GT_st rfl rfl rfl rfl (V_len rfl Tryz.underlying38 rfl) ?_;refine GT_st rfl rfl rfl rfl (V_lss rfl rfl rfl) ?_;refine GT_nil ?_;refine GE_cond rfl (fun q5 => ?_) (fun q5 => ?_)
            · have hil : i < f.length := (by omega); have hsn := gR_snoc h5 hil; have hbd := gT_bd (i := i) h5
              refine GE_skip ?_;refine GE_seq ?_;refine GE_block ?_;refine GE_seq ?_;refine GE_slots (L' := [(0, _), (1, _), (2, _), (7, _), (9, _), (10, _), (11, _), (12, _), (13, _)]) ⟨rfl, rfl, rfl, rfl, rfl, rfl, rfl, rfl, rfl, trivial⟩ ?_;refine GE_plain (.st 0 (.st 1 (.st 2 (.st 3 (.st 4 .nil))))) rfl ?_;refine GT_st rfl rfl rfl rfl (V_move rfl rfl) ?_;refine GT_st rfl rfl rfl rfl (V_move rfl rfl) ?_;refine GT_st rfl rfl rfl rfl (V_index rfl rfl rfl Tryz.underlying38 sz_3 rfl hil (hr3.isSome (k := i) hil)) ?_;refine GT_st rfl rfl rfl rfl (V_load rfl rfl ag_3 (hr3.at0 (k := i) noM hil rfl)) ?_;refine GT_st rfl rfl rfl rfl (V_eql rfl rfl rfl) ?_;refine GT_nil ?_;refine GE_cond rfl (fun q6 => ?_) (fun q6 => ?_)
              · have hx : ((gC (f.take i) : Nat) : Int) = (gC (f.take (i + 1)) : Nat) := (by rw [hsn.2, if_pos q6, Int.mul_one])
                refine GE_slots (L' := [(0, _), (1, _), (2, _), (7, _), (9, _), (10, _), (11, _), (12, _), (13, _)]) ⟨rfl, rfl, rfl, rfl, rfl, rfl, rfl, rfl, rfl, trivial⟩ ?_;refine GE_plain (.st 0 (.st 1 (.ld 2 [] .nil))) rfl ?_;refine GT_st rfl rfl rfl rfl (V_move rfl rfl) ?_;refine GT_st rfl rfl rfl rfl (V_mul rfl rfl rfl ((wrap_i64 (by omega)).trans (show _ = ((gR (f.take (i + 1)) : Nat) : Int) by rw [hsn.1, if_pos q6]))) ?_;refine GT_ldv rfl rfl rfl rfl rfl (V_assign rfl rfl) (GR_nil) ?_;refine GT_nil ?_;refine GE_inBlock ?_;refine GE_plain (.st 0 (.st 1 (.ld 2 [] .nil))) rfl ?_;refine GT_st rfl rfl rfl rfl (V_move rfl rfl) ?_;refine GT_st rfl rfl rfl rfl (V_add rfl rfl rfl (wrap_i64 (by omega))) ?_;refine GT_ldv rfl rfl rfl rfl rfl (V_assign rfl rfl) (GR_nil) ?_;refine GT_nil ?_
                exact GE_to (ih (i + 1) (by omega) (by omega)) ⟨rfl, rfl, rfl, rfl, rfl, rfl, (by first | exact lookI rfl hx | rfl), (by first | exact lookI rfl hx | rfl), rfl, trivial⟩ (HS.chunk HS.last)
              · have hx : ((gR (f.take i) : Nat) : Int) = (gR (f.take (i + 1)) : Nat) := (by rw [hsn.1, if_neg q6, Int.mul_one])
                refine GE_slots (L' := [(0, _), (1, _), (2, _), (7, _), (9, _), (10, _), (11, _), (12, _), (13, _)]) ⟨rfl, rfl, rfl, rfl, rfl, rfl, rfl, rfl, rfl, trivial⟩ ?_;refine GE_plain (.st 0 (.st 1 (.ld 2 [] .nil))) rfl ?_;refine GT_st rfl rfl rfl rfl (V_move rfl rfl) ?_;refine GT_st rfl rfl rfl rfl (V_mul rfl rfl rfl ((wrap_i64 (by omega)).trans (show _ = ((gC (f.take (i + 1)) : Nat) : Int) by rw [hsn.2, if_neg q6]))) ?_;refine GT_ldv rfl rfl rfl rfl rfl (V_assign rfl rfl) (GR_nil) ?_;refine GT_nil ?_;refine GE_inBlock ?_;refine GE_plain (.st 0 (.st 1 (.ld 2 [] .nil))) rfl ?_;refine GT_st rfl rfl rfl rfl (V_move rfl rfl) ?_;refine GT_st rfl rfl rfl rfl (V_add rfl rfl rfl (wrap_i64 (by omega))) ?_;refine GT_ldv rfl rfl rfl rfl rfl (V_assign rfl rfl) (GR_nil) ?_;refine GT_nil ?_
                exact GE_to (ih (i + 1) (by omega) (by omega)) ⟨rfl, rfl, rfl, rfl, rfl, rfl, (by first | exact lookI rfl hx | rfl), (by first | exact lookI rfl hx | rfl), rfl, trivial⟩ (HS.chunk HS.last)
            · obtain rfl : i = f.length := (by omega); rw [List.take_length]
              refine GE_exit rfl ?_;refine GE_seq ?_;refine GE_slots (L' := [(0, _), (1, _), (2, _), (7, _), (9, _), (10, _), (11, _), (12, _)]) ⟨rfl, rfl, rfl, rfl, rfl, rfl, rfl, rfl, trivial⟩ ?_;refine GE_plain (.st 0 (.st 1 (.ld 2 [] (.st 3 .nil)))) rfl ?_;refine GT_st rfl rfl rfl rfl (V_move rfl rfl) ?_;refine GT_st rfl rfl rfl rfl (V_len rfl Tryz.underlying115 rfl) ?_;refine GT_makeSlice rfl rfl rfl rfl rfl rfl rfl Tryz.underlying113 zc_9 sz_9 by_9 (nn := (pagesL f).length) ⟨rfl, rfl, rfl⟩ ⟨by omega, by omega⟩ (fun _ => GR_nil) (fun b97 => ?_)
              refine GT_st rfl rfl rfl rfl (V_assign rfl rfl) ?_;refine GT_nil ?_;refine GE_seq ?_;refine GE_seq ?_;refine GE_plain (.st 0 .nil) rfl ?_;refine GT_st rfl rfl rfl rfl (V_assign rfl rfl) ?_;refine GT_nil ?_;refine GE_block ?_;refine GE_to (GE_loop (ι := Nat × Items) (fun x => gR f - x.1) (fun x => [(0, .slice A l.length c), (1, .slice A2 p.length c2), (2, .slice A3 f.length c3), (7, .string (stz (tx l p))), (9, .slice yl.1 (p.length + 1) yl.2.1), (10, .slice yp.1 (pagesL f).length yp.2.1), (11, I (gR f)), (12, I (gC f)), (14, .slice (some ⟨b97, 0, none⟩) (pagesL f).length (pagesL f).length), (15, I x.1)]) (fun x => yp.2.2 ++ (yl.2.2 ++ x.2)) (fun x => x.1 ≤ gR f ∧ Own 1 9 eB (shN l p f (2 * (x.1 * gC f))) (.slice (some ⟨b97, 0, none⟩) (pagesL f).length (pagesL f).length) x.2) ?_ (0, [(b97, blk ((List.replicate (pagesL f).length [.string ByteArray.empty]).flatten) 9)]) ?_) ⟨rfl, rfl, rfl, rfl, rfl, rfl, rfl, rfl, rfl, rfl, trivial⟩ (HS.chunk (HS.chunk HS.last))
              · rintro ⟨r, I1⟩ ⟨hr, hO1⟩ ih1; dsimp only at hr hO1 ih1 ⊢
                refine GE_seq ?_;refine GE_seq ?_;refine GE_plain (.st 0 (.st 1 (.st 2 .nil))) rfl ?_;refine GT_st rfl rfl rfl rfl (V_move rfl rfl) ?_;refine GT_st rfl rfl rfl rfl (V_move rfl rfl) ?_;refine GT_st rfl rfl rfl rfl (V_lss rfl rfl rfl) ?_;refine GT_nil ?_;refine GE_cond rfl (fun q7 => ?_) (fun q7 => ?_)
                · have hrr : r < gR f := (by omega)
                  refine GE_skip ?_;refine GE_seq ?_;refine GE_block ?_;refine GE_seq ?_;refine GE_plain (.st 0 .nil) rfl ?_;refine GT_st rfl rfl rfl rfl (V_assign rfl rfl) ?_;refine GT_nil ?_;refine GE_block ?_;refine GE_to (GE_loop (ι := Nat × Items) (fun x => gC f - x.1) (fun x => [(0, .slice A l.length c), (1, .slice A2 p.length c2), (2, .slice A3 f.length c3), (7, .string (stz (tx l p))), (9, .slice yl.1 (p.length + 1) yl.2.1), (10, .slice yp.1 (pagesL f).length yp.2.1), (11, I (gR f)), (12, I (gC f)), (14, .slice (some ⟨b97, 0, none⟩) (pagesL f).length (pagesL f).length), (15, I r), (16, I x.1)]) (fun x => yp.2.2 ++ (yl.2.2 ++ x.2)) (fun x => x.1 ≤ gC f ∧ Own 1 9 eB (shN l p f (2 * (r * gC f + x.1))) (.slice (some ⟨b97, 0, none⟩) (pagesL f).length (pagesL f).length) x.2) ?_ (0, I1) ?_) ⟨rfl, rfl, rfl, rfl, rfl, rfl, rfl, rfl, rfl, rfl, rfl, trivial⟩ (HS.chunk (HS.chunk HS.last))
                  · rintro ⟨cc, I2⟩ ⟨hcc, hO2⟩ ih2; dsimp only at hcc hO2 ih2 ⊢
                    refine GE_seq ?_;refine GE_seq ?_;refine GE_plain (.st 0 (.st 1 (.st 2 .nil))) rfl ?_;refine GT_st rfl rfl rfl rfl (V_move rfl rfl) ?_;refine GT_st rfl rfl rfl rfl (V_move rfl rfl) ?_;refine GT_st rfl rfl rfl rfl (V_lss rfl rfl rfl) ?_;refine GT_nil ?_;refine GE_cond rfl (fun q8 => ?_) (fun q8 => ?_)
                    · have hcl : cc < gC f := (by omega); have hix := ix_lt hrr hcl
                      refine GE_skip ?_;refine GE_seq ?_;refine GE_block ?_;refine GE_seq ?_;refine GE_plain (.st 0 .nil) rfl ?_;refine GT_st rfl rfl rfl rfl (V_assign rfl rfl) ?_;refine GT_nil ?_;refine GE_block ?_;refine GE_to (GE_loop (ι := Nat × Items) (fun x => 2 - x.1) (fun x => [(0, .slice A l.length c), (1, .slice A2 p.length c2), (2, .slice A3 f.length c3), (7, .string (stz (tx l p))), (9, .slice yl.1 (p.length + 1) yl.2.1), (10, .slice yp.1 (pagesL f).length yp.2.1), (11, I (gR f)), (12, I (gC f)), (14, .slice (some ⟨b97, 0, none⟩) (pagesL f).length (pagesL f).length), (15, I r), (16, I cc), (17, I x.1)]) (fun x => yp.2.2 ++ (yl.2.2 ++ x.2)) (fun x => x.1 ≤ 2 ∧ Own 1 9 eB (shN l p f (2 * (r * gC f + cc) + x.1)) (.slice (some ⟨b97, 0, none⟩) (pagesL f).length (pagesL f).length) x.2) ?_ (0, I2) ?_) ⟨rfl, rfl, rfl, rfl, rfl, rfl, rfl, rfl, rfl, rfl, rfl, rfl, trivial⟩ (HS.chunk (HS.chunk HS.last))
                      · rintro ⟨k, I3⟩ ⟨hk, hO3⟩ ih3; dsimp only at hk hO3 ih3 ⊢
                        refine GE_seq ?_;refine GE_seq ?_;refine GE_plain (.st 0 (.st 1 .nil)) rfl ?_;refine GT_st rfl rfl rfl rfl (V_move rfl rfl) ?_;refine GT_st rfl rfl rfl rfl (V_lss rfl rfl rfl) ?_;refine GT_nil ?_;refine GE_cond rfl (fun q9 => ?_) (fun q9 => ?_)
                        · have hkl : k < 2 := (by omega)
                          refine GE_skip ?_;refine GE_seq ?_;refine GE_block ?_;refine GE_seq ?_
                          obtain ⟨pi, hpi, hpl⟩ := pg_at (f := f) (decide ((k : Int) = 1)) h5 hrr hcl; have hshv := (shv_at (l := l) (p := p) (f := f) (r := r) hcl hkl).trans (cel_some hpi)
                          refine GE_plain (.st 0 (.st 1 (.st 2 (.st 3 (.st 4 (.ld 5 [] (.st 6 (.st 7 (.st 8 (.st 9 (.st 10 .nil))))))))))) rfl ?_;refine GT_st rfl rfl rfl rfl (V_move rfl rfl) ?_;refine GT_st rfl rfl rfl rfl (V_move rfl rfl) ?_;refine GT_st rfl rfl rfl rfl (V_move rfl rfl) ?_;refine GT_st rfl rfl rfl rfl (V_move rfl rfl) ?_;refine GT_st rfl rfl rfl rfl (V_eql rfl rfl rfl) ?_;refine GT_call0 rfl rfl rfl rfl rfl rfl rfl rfl rn_44 (fun w hw => C_PageS (hG.sh hw) hF (hr3.sh hw) hpi) (GR_nil) ?_;refine GT_st rfl rfl rfl rfl (V_move rfl rfl) ?_;refine GT_st rfl rfl rfl rfl (V_extract rfl rfl rfl) ?_;refine GT_st rfl rfl rfl rfl (V_extract rfl rfl rfl) ?_;refine GT_st rfl rfl rfl rfl (V_assign rfl rfl) ?_;refine GT_st rfl rfl rfl rfl (V_assign rfl rfl) ?_;refine GT_nil ?_;refine GE_seq ?_;refine GE_seq ?_;refine GE_slots (L' := [(0, _), (1, _), (2, _), (7, _), (9, _), (10, _), (11, _), (12, _), (14, _), (15, _), (16, _), (17, _), (18, _), (19, _)]) ⟨rfl, rfl, rfl, rfl, rfl, rfl, rfl, rfl, rfl, rfl, rfl, rfl, rfl, rfl, trivial⟩ ?_;refine GE_plain (.st 0 (.st 1 (.st 2 (.st 3 (.st 4 (.st 5 (.st 6 (.st 7 (.st 8 (.st 9 (.st 10 (.st 11 .nil)))))))))))) rfl ?_;refine GT_st rfl rfl rfl rfl (V_move rfl rfl) ?_;refine GT_st rfl rfl rfl rfl (V_isF (V_neq rfl rfl rfl) (fun q => q rfl)) ?_;refine GT_st rfl rfl rfl rfl (V_move rfl rfl) ?_;refine GT_st_g rfl rfl rfl rfl rfl rfl rfl (V_move rfl rfl) ?_;refine GT_st_g rfl rfl rfl rfl rfl rfl rfl (V_isF (V_lss rfl rfl rfl) (by omega)) ?_;refine GT_st rfl rfl rfl rfl (V_pick_f rfl rfl rfl) ?_;refine GT_st rfl rfl rfl rfl (V_move rfl rfl) ?_;refine GT_st_g rfl rfl rfl rfl rfl rfl rfl (V_move rfl rfl) ?_;refine GT_st_g rfl rfl rfl rfl rfl rfl rfl (V_move rfl rfl) ?_
                          refine GT_st_g rfl rfl rfl rfl rfl rfl rfl (V_len rfl Tryz.underlying115 rfl) ?_;refine GT_st_g rfl rfl rfl rfl rfl rfl rfl (V_isF (V_gtr rfl rfl rfl) (by omega)) ?_;refine GT_st rfl rfl rfl rfl (V_pick_f rfl rfl rfl) ?_;refine GT_nil ?_;refine GE_cond_f rfl ?_;refine GE_skip ?_;refine GE_seq ?_;refine GE_slots (L' := [(0, _), (1, _), (2, _), (7, _), (9, _), (10, _), (11, _), (12, _), (14, _), (15, _), (16, _), (17, _), (18, _), (124, _), (125, _), (128, _), (129, _), (130, _), (131, _)]) ⟨rfl, rfl, rfl, rfl, rfl, rfl, rfl, rfl, rfl, rfl, rfl, rfl, rfl, rfl, rfl, rfl, rfl, rfl, rfl, trivial⟩ ?_;refine GE_plain (.st 0 (.st 1 (.st 2 (.st 3 .nil)))) rfl ?_;refine GT_st rfl rfl rfl rfl (V_move rfl rfl) ?_;refine GT_st rfl rfl rfl rfl (V_move rfl rfl) ?_;refine GT_st rfl rfl rfl rfl (V_len rfl Tryz.underlying108 rfl) ?_;refine GT_st rfl rfl rfl rfl (V_leq rfl rfl rfl) ?_;refine GT_nil ?_;refine GE_cond rfl (fun q10 => ?_) (fun q10 => ?_)
                          · have hpp : pi < p.length := (by omega); have hll := ln_le l p pi
                            refine GE_slots (L' := [(0, _), (1, _), (2, _), (7, _), (9, _), (10, _), (11, _), (12, _), (14, _), (15, _), (16, _), (17, _), (18, _), (124, _), (125, _), (128, _), (129, _), (130, _), (131, _)]) ⟨rfl, rfl, rfl, rfl, rfl, rfl, rfl, rfl, rfl, rfl, rfl, rfl, rfl, rfl, rfl, rfl, rfl, rfl, rfl, trivial⟩ ?_;refine GE_plain (.st 0 (.st 1 (.st 2 (.st 3 (.st 4 (.st 5 (.st 6 (.st 7 (.st 8 (.st 9 (.st 10 (.st 11 (.st 12 (.st 13 (.st 14 (.st 15 (.ld 16 [] .nil))))))))))))))))) rfl ?_;refine GT_st rfl rfl rfl rfl (V_move rfl rfl) ?_;refine GT_st rfl rfl rfl rfl (V_move rfl rfl) ?_;refine GT_st rfl rfl rfl rfl (V_move rfl rfl) ?_;refine GT_st rfl rfl rfl rfl (V_mul rfl rfl rfl ((wrap_i64 (by rw [nat_mul]; omega)).trans nat_mul)) ?_;refine GT_st rfl rfl rfl rfl (V_move rfl rfl) ?_;refine GT_st rfl rfl rfl rfl (V_add rfl rfl rfl ((wrap_i64 (by omega)))) ?_;refine GT_st rfl rfl rfl rfl (V_mul rfl rfl rfl ((wrap_i64 (by omega)))) ?_;refine GT_st rfl rfl rfl rfl (V_move rfl rfl) ?_;refine GT_st rfl rfl rfl rfl (V_add rfl rfl rfl ((wrap_i64 (by omega)))) ?_;refine GT_st rfl rfl rfl rfl (V_move rfl rfl) ?_;refine GT_st rfl rfl rfl rfl (V_move rfl rfl) ?_;refine GT_st rfl rfl rfl rfl (V_sub rfl rfl rfl ((wrap_i64 (by omega)))) ?_;refine GT_st rfl rfl rfl rfl (V_index rfl rfl rfl Tryz.underlying113 sz_9 (k := pi) (by omega) (by omega) (hyl.isSome (k := pi) (by rw [lines_len]; omega))) ?_;refine GT_st rfl rfl rfl rfl (V_load rfl rfl ag_9 (CellAt.own0 (k := pi) hyl eB_len (by rw [lines_len]; omega) rfl)) ?_
                            refine GT_st rfl rfl rfl rfl (V_eqv (V_addStr rfl rfl rfl (by rw [← lines_at hpp, List.length_append] at hll; rw [stz_size]; show _ + 1 ≤ _; simp only [List.length_singleton] at hll; omega)) (congrArg Value.string (show _ = stz (lnP l p pi) by rw [← lines_at hpp, ← Take.stz_app]))) ?_;refine GT_st rfl rfl rfl rfl (V_index rfl rfl rfl Tryz.underlying113 sz_9 (k := 2 * (r * gC f + cc) + k) (by omega) (by omega) rfl) ?_;refine GT_storeOwn (enc := eB) (q := 2 * (r * gC f + cc) + k) (xx := shv l p f (2 * (r * gC f + cc) + k)) rfl rfl rfl rfl rfl rfl (by rw [hshv]; rfl) sz_9 hO3 eB_len eB_one (by rw [shN_len]; omega) (by decide) (fun _ _ => GR_nil) (fun I4 hO4 => ?_)
                            refine GT_nil ?_;refine GE_inBlock ?_;refine GE_slots (L' := [(0, _), (1, _), (2, _), (7, _), (9, _), (10, _), (11, _), (12, _), (14, _), (15, _), (16, _), (17, _), (124, _), (125, _), (128, _), (129, _), (130, _), (131, _)]) ⟨rfl, rfl, rfl, rfl, rfl, rfl, rfl, rfl, rfl, rfl, rfl, rfl, rfl, rfl, rfl, rfl, rfl, rfl, trivial⟩ ?_
                            first | (rw [shN_set (by omega)] at hO4) | skip
                            refine GE_plain (.st 0 (.st 1 (.ld 2 [] .nil))) rfl ?_;refine GT_st rfl rfl rfl rfl (V_move rfl rfl) ?_;refine GT_st rfl rfl rfl rfl (V_add rfl rfl rfl (wrap_i64 (by omega))) ?_;refine GT_ldv rfl rfl rfl rfl rfl (V_assign rfl rfl) (GR_nil) ?_;refine GT_nil ?_
                            exact GE_to (ih3 (k + 1, _) ⟨by dsimp only; omega, by first | exact hO4 | (dsimp only; rw [← Nat.add_assoc, shN_skip hnil]; exact hO3)⟩ (by dsimp only; omega)) ⟨rfl, rfl, rfl, rfl, rfl, rfl, rfl, rfl, rfl, rfl, rfl, rfl, trivial⟩ (HS.chunk (HS.chunk HS.last))
                          · have hnil : shv l p f (2 * (r * gC f + cc) + k) = [] := hshv.trans (lnP_nil (by omega))
                            refine GE_skip ?_;refine GE_inBlock ?_;refine GE_slots (L' := [(0, _), (1, _), (2, _), (7, _), (9, _), (10, _), (11, _), (12, _), (14, _), (15, _), (16, _), (17, _), (124, _), (125, _), (128, _), (129, _), (130, _), (131, _)]) ⟨rfl, rfl, rfl, rfl, rfl, rfl, rfl, rfl, rfl, rfl, rfl, rfl, rfl, rfl, rfl, rfl, rfl, rfl, trivial⟩ ?_
                            first | (rw [shN_set (by omega)] at hO4) | skip
                            refine GE_plain (.st 0 (.st 1 (.ld 2 [] .nil))) rfl ?_;refine GT_st rfl rfl rfl rfl (V_move rfl rfl) ?_;refine GT_st rfl rfl rfl rfl (V_add rfl rfl rfl (wrap_i64 (by omega))) ?_;refine GT_ldv rfl rfl rfl rfl rfl (V_assign rfl rfl) (GR_nil) ?_;refine GT_nil ?_
                            exact GE_to (ih3 (k + 1, _) ⟨by dsimp only; omega, by first | exact hO4 | (dsimp only; rw [← Nat.add_assoc, shN_skip hnil]; exact hO3)⟩ (by dsimp only; omega)) ⟨rfl, rfl, rfl, rfl, rfl, rfl, rfl, rfl, rfl, rfl, rfl, rfl, trivial⟩ (HS.chunk (HS.chunk HS.last))
                        · obtain rfl : k = 2 := (by omega)
                          refine GE_exit rfl ?_;refine GE_inBlock ?_;refine GE_plain (.st 0 (.st 1 (.ld 2 [] .nil))) rfl ?_;refine GT_st rfl rfl rfl rfl (V_move rfl rfl) ?_;refine GT_st rfl rfl rfl rfl (V_add rfl rfl rfl (wrap_i64 (by omega))) ?_;refine GT_ldv rfl rfl rfl rfl rfl (V_assign rfl rfl) (GR_nil) ?_;refine GT_nil ?_
                          exact GE_to (ih2 (cc + 1, I3) ⟨by dsimp only; omega, hO3⟩ (by dsimp only; omega)) ⟨rfl, rfl, rfl, rfl, rfl, rfl, rfl, rfl, rfl, rfl, rfl, trivial⟩ (HS.chunk (HS.chunk HS.last))
                      · exact ⟨Nat.zero_le _, hO2⟩
                    · obtain rfl : cc = gC f := (by omega)
                      refine GE_exit rfl ?_;refine GE_inBlock ?_;refine GE_slots (L' := [(0, _), (1, _), (2, _), (7, _), (9, _), (10, _), (11, _), (12, _), (14, _), (15, _)]) ⟨rfl, rfl, rfl, rfl, rfl, rfl, rfl, rfl, rfl, rfl, trivial⟩ ?_;refine GE_plain (.st 0 (.st 1 (.ld 2 [] .nil))) rfl ?_;refine GT_st rfl rfl rfl rfl (V_move rfl rfl) ?_;refine GT_st rfl rfl rfl rfl (V_add rfl rfl rfl (wrap_i64 (by omega))) ?_;refine GT_ldv rfl rfl rfl rfl rfl (V_assign rfl rfl) (GR_nil) ?_;refine GT_nil ?_
                      exact GE_to (ih1 (r + 1, I2) ⟨by dsimp only; omega, by dsimp only; rw [Nat.add_mul, Nat.one_mul]; exact hO2⟩ (by dsimp only; omega)) ⟨rfl, rfl, rfl, rfl, rfl, rfl, rfl, rfl, rfl, rfl, trivial⟩ (HS.chunk (HS.chunk HS.last))
                  · exact ⟨Nat.zero_le _, hO1⟩
                · obtain rfl : r = gR f := (by omega)
                  refine GE_exit rfl ?_;refine GE_seq ?_;refine GE_slots (L' := [(0, _), (1, _), (7, _), (10, _), (11, _), (12, _), (14, _)]) ⟨rfl, rfl, rfl, rfl, rfl, rfl, rfl, trivial⟩ ?_;refine GE_plain (.st 0 .nil) rfl ?_;refine GT_st rfl rfl rfl rfl (V_assign rfl rfl) ?_;refine GT_nil ?_;refine GE_seq ?_;refine GE_seq ?_;refine GE_plain (.st 0 .nil) rfl ?_;refine GT_st rfl rfl rfl rfl (V_assign rfl rfl) ?_;refine GT_nil ?_;refine GE_block ?_;refine GE_to (GE_loop (ι := Nat) (fun z => (pagesL f).length - z) (fun z => [(0, .slice A l.length c), (1, .slice A2 p.length c2), (7, .string (stz (tx l p))), (10, .slice yp.1 (pagesL f).length yp.2.1), (11, I (gR f)), (12, I (gC f)), (14, .slice (some ⟨b97, 0, none⟩) (pagesL f).length (pagesL f).length), (20, .string (stz (tx l (p.take z)))), (21, I z)]) (fun z => yp.2.2 ++ (yl.2.2 ++ I1)) (fun z => z ≤ (pagesL f).length) ?_ 0 ?_) ⟨rfl, rfl, rfl, rfl, rfl, rfl, rfl, rfl, rfl, trivial⟩ (HS.chunk (HS.chunk HS.last))
                  · rintro i hi ih
                    refine GE_seq ?_;refine GE_seq ?_;refine GE_plain (.st 0 (.st 1 (.st 2 (.st 3 .nil)))) rfl ?_;refine GT_st rfl rfl rfl rfl (V_move rfl rfl) ?_;refine GT_st rfl rfl rfl rfl (V_move rfl rfl) ?_;refine GT_st rfl rfl rfl rfl (V_len rfl Tryz.underlying115 rfl) ?_;refine GT_st rfl rfl rfl rfl (V_lss rfl rfl rfl) ?_;refine GT_nil ?_;refine GE_cond rfl (fun q11 => ?_) (fun q11 => ?_)
                    · have hil : i < (pagesL f).length := (by omega); obtain ⟨r, cc, er, ec, hrr, hcl, hcel⟩ := rd_at (l := l) (p := p) h5 hil; have hix := ix_lt hrr hcl; have hll := ln_le l p i; have heL : eLeaf ((pagesL f).getD i default) = [I r, I cc, .bool ((pagesL f).getD i default).back, .bool ((pagesL f).getD i default).turned] := (by rw [← er, ← ec]; rfl); generalize hbk : ((pagesL f).getD i default).back = bk at *
                      refine GE_skip ?_;refine GE_seq ?_;refine GE_block ?_;refine GE_seq ?_;refine GE_slots (L' := [(0, _), (1, _), (7, _), (10, _), (11, _), (12, _), (14, _), (20, _), (21, _)]) ⟨rfl, rfl, rfl, rfl, rfl, rfl, rfl, rfl, rfl, trivial⟩ ?_;refine GE_plain (.st 0 (.st 1 (.st 2 (.st 3 (.ld 4 [] (.ld 5 [] .nil)))))) rfl ?_;refine GT_st rfl rfl rfl rfl (V_move rfl rfl) ?_;refine GT_st rfl rfl rfl rfl (V_move rfl rfl) ?_;refine GT_st rfl rfl rfl rfl (V_index rfl rfl rfl Tryz.underlying115 sz_120 rfl hil (hyp.isSome (k := i) hil)) ?_;refine GT_st rfl rfl rfl rfl (V_loadN (vs := [_, _, _, _]) rfl rfl ag_120 sz_120 rfl (CellsAt.ownE hyp eLeaf_len hil heL)) ?_;refine GT_alloc rfl rfl rfl rfl rfl zc_120 (fun _ => GR_nil) (fun b22 => ?_)
                      refine GT_store (vs := [_, _, _, _]) (l' := [_, _, _, _]) rfl rfl rfl rfl rfl rfl rfl sz_120 rfl rfl (Nat.le_of_ble_eq_true rfl) rfl (GR_nil) ?_;refine GT_nil ?_;refine GE_seq ?_;refine GE_slots (L' := [(0, _), (1, _), (7, _), (10, _), (11, _), (12, _), (14, _), (20, _), (21, _), (22, _)]) ⟨rfl, rfl, rfl, rfl, rfl, rfl, rfl, rfl, rfl, rfl, trivial⟩ ?_;refine GE_plain (.st 0 (.st 1 (.st 2 (.st 3 (.st 4 (.st 5 (.st 6 (.st 7 (.st 8 .nil))))))))) rfl ?_;refine GT_st rfl rfl rfl rfl (V_field rfl rfl fo_120_0) ?_;refine GT_st rfl rfl rfl rfl (V_load rfl rfl ag_3 (CellAt.item rfl)) ?_;refine GT_st rfl rfl rfl rfl (V_move rfl rfl) ?_;refine GT_st rfl rfl rfl rfl (V_mul rfl rfl rfl ((wrap_i64 (by rw [nat_mul]; omega)).trans nat_mul)) ?_;refine GT_st rfl rfl rfl rfl (V_field rfl rfl fo_120_1) ?_;refine GT_st rfl rfl rfl rfl (V_load rfl rfl ag_3 (CellAt.item rfl)) ?_;refine GT_st rfl rfl rfl rfl (V_add rfl rfl rfl ((wrap_i64 (by omega)))) ?_;refine GT_st rfl rfl rfl rfl (V_mul rfl rfl rfl ((wrap_i64 (by omega)))) ?_;refine GT_st rfl rfl rfl rfl (V_assign rfl rfl) ?_;refine GT_nil ?_;refine GE_cut (ι := Nat) (fun m => [(0, .slice A l.length c), (1, .slice A2 p.length c2), (7, .string (stz (tx l p))), (10, .slice yp.1 (pagesL f).length yp.2.1), (11, I (gR f)), (12, I (gC f)), (14, .slice (some ⟨b97, 0, none⟩) (pagesL f).length (pagesL f).length), (20, .string (stz (tx l (p.take i)))), (21, I i), (22, ptr b22 0), (23, I m)]) (fun m => (b22, blk [I r, I cc, .bool bk, .bool ((pagesL f).getD i default).turned] 120) :: (yp.2.2 ++ (yl.2.2 ++ I1))) (fun m => m < (pagesL f).length ∧ (shN l p f (2 * (gR f * gC f))).getD m default = lnP l p i) ?_ (fun hk => ?_)
                      · intro m hx
                        obtain ⟨hm1, hm2⟩ := hx
                        refine GE_seq ?_;refine GE_seq ?_;refine GE_plain (.st 0 (.st 1 (.st 2 (.st 3 (.st 4 (.st 5 (.st 6 (.st 7 (.st 8 (.st 9 (.st 10 (.st 11 (.st 12 (.st 13 (.st 14 (.st 15 (.st 16 (.st 17 (.st 18 (.st 19 (.st 20 (.st 21 (.st 22 (.st 23 (.st 24 (.st 25 (.st 26 (.st 27 (.st 28 (.st 29 (.st 30 (.st 31 .nil)))))))))))))))))))))))))))))))) rfl ?_;refine GT_st rfl rfl rfl rfl (V_field rfl rfl fo_120_0) ?_;refine GT_st rfl rfl rfl rfl (V_load rfl rfl ag_3 (CellAt.item rfl)) ?_;refine GT_st rfl rfl rfl rfl (V_isF (V_lss rfl rfl rfl) (by omega)) ?_;refine GT_st rfl rfl rfl rfl (V_move rfl rfl) ?_;refine GT_st_g rfl rfl rfl rfl rfl rfl rfl (V_field rfl rfl fo_120_0) ?_;refine GT_st_g rfl rfl rfl rfl rfl rfl rfl (V_load rfl rfl ag_3 (CellAt.item rfl)) ?_;refine GT_st_g rfl rfl rfl rfl rfl rfl rfl (V_move rfl rfl) ?_;refine GT_st_g rfl rfl rfl rfl rfl rfl rfl (V_isF (V_geq rfl rfl rfl) (by omega)) ?_;refine GT_st rfl rfl rfl rfl (V_pick_f rfl rfl rfl) ?_;refine GT_st rfl rfl rfl rfl (V_move rfl rfl) ?_;refine GT_st_g rfl rfl rfl rfl rfl rfl rfl (V_field rfl rfl fo_120_1) ?_;refine GT_st_g rfl rfl rfl rfl rfl rfl rfl (V_load rfl rfl ag_3 (CellAt.item rfl)) ?_;refine GT_st_g rfl rfl rfl rfl rfl rfl rfl (V_isF (V_lss rfl rfl rfl) (by omega)) ?_;refine GT_st rfl rfl rfl rfl (V_pick_f rfl rfl rfl) ?_;refine GT_st rfl rfl rfl rfl (V_move rfl rfl) ?_;refine GT_st_g rfl rfl rfl rfl rfl rfl rfl (V_field rfl rfl fo_120_1) ?_;refine GT_st_g rfl rfl rfl rfl rfl rfl rfl (V_load rfl rfl ag_3 (CellAt.item rfl)) ?_;refine GT_st_g rfl rfl rfl rfl rfl rfl rfl (V_move rfl rfl) ?_;refine GT_st_g rfl rfl rfl rfl rfl rfl rfl (V_isF (V_geq rfl rfl rfl) (by omega)) ?_;refine GT_st rfl rfl rfl rfl (V_pick_f rfl rfl rfl) ?_;refine GT_st rfl rfl rfl rfl (V_move rfl rfl) ?_
                        refine GT_st_g rfl rfl rfl rfl rfl rfl rfl (V_move rfl rfl) ?_;refine GT_st_g rfl rfl rfl rfl rfl rfl rfl (V_move rfl rfl) ?_;refine GT_st_g rfl rfl rfl rfl rfl rfl rfl (V_len rfl Tryz.underlying108 rfl) ?_;refine GT_st_g rfl rfl rfl rfl rfl rfl rfl (V_lss rfl rfl rfl) ?_;refine GT_st_g rfl rfl rfl rfl rfl rfl rfl (V_move rfl rfl) ?_;refine GT_st_g rfl rfl rfl rfl rfl rfl rfl (V_move rfl rfl) ?_;refine GT_st_g rfl rfl rfl rfl rfl rfl rfl (V_index rfl rfl rfl Tryz.underlying113 sz_9 (k := m) rfl hm1 rfl) ?_;refine GT_st_g rfl rfl rfl rfl rfl rfl rfl (V_load rfl rfl ag_9 (CellAt.own0 (k := m) hO1 eB_len (by rw [shN_len]; exact hm1) (by rw [hm2]; rfl))) ?_;refine GT_st_g rfl rfl rfl rfl rfl rfl rfl (V_neqStr rfl rfl rfl) ?_;refine GT_st_g rfl rfl rfl rfl rfl rfl rfl (V_neqBB_same rfl rfl rfl Tryz.underlying4 lnP_bb) ?_;refine GT_st rfl rfl rfl rfl (V_pick_f rfl rfl rfl) ?_;refine GT_nil ?_;refine GE_cond_f rfl ?_;refine GE_skip ?_;refine GE_slots (L' := [(0, _), (1, _), (7, _), (10, _), (11, _), (12, _), (14, _), (20, _), (21, _), (23, _), (179, _), (180, _), (181, _), (182, _), (185, _), (186, _), (187, _), (190, _), (191, _), (192, _), (193, _), (196, _), (197, _), (198, _), (199, _), (200, _), (201, _), (202, _), (203, _), (204, _), (205, _)]) ⟨rfl, rfl, rfl, rfl, rfl, rfl, rfl, rfl, rfl, rfl, rfl, rfl, rfl, rfl, rfl, rfl, rfl, rfl, rfl, rfl, rfl, rfl, rfl, rfl, rfl, rfl, rfl, rfl, rfl, rfl, rfl, trivial⟩ ?_;refine GE_plain (.st 0 (.st 1 (.st 2 (.st 3 (.st 4 (.st 5 (.ld 6 [] .nil))))))) rfl ?_;refine GT_st rfl rfl rfl rfl (V_move rfl rfl) ?_;refine GT_st rfl rfl rfl rfl (V_move rfl rfl) ?_;refine GT_st rfl rfl rfl rfl (V_move rfl rfl) ?_;refine GT_st rfl rfl rfl rfl (V_index rfl rfl rfl Tryz.underlying113 sz_9 (k := m) rfl hm1 rfl) ?_
                        refine GT_st rfl rfl rfl rfl (V_load rfl rfl ag_9 (CellAt.own0 (k := m) hO1 eB_len (by rw [shN_len]; exact hm1) (by rw [hm2]; rfl))) ?_;refine GT_st rfl rfl rfl rfl (V_eqv (V_addStr rfl rfl rfl (by rw [stz_size, stz_size]; omega)) (congrArg Value.string (show _ = stz (tx l (p.take (i + 1))) by rw [tx_succ, ← Take.stz_app]))) ?_;refine GT_ldv rfl rfl rfl rfl rfl (V_assign rfl rfl) (GR_nil) ?_;refine GT_nil ?_;refine GE_inBlock ?_;refine GE_slots (L' := [(0, _), (1, _), (7, _), (10, _), (11, _), (12, _), (14, _), (20, _), (21, _), (179, _), (180, _), (181, _), (182, _), (185, _), (186, _), (187, _), (190, _), (191, _), (192, _), (193, _), (196, _), (197, _), (198, _), (199, _), (200, _), (201, _), (202, _), (203, _), (204, _), (205, _)]) ⟨rfl, rfl, rfl, rfl, rfl, rfl, rfl, rfl, rfl, rfl, rfl, rfl, rfl, rfl, rfl, rfl, rfl, rfl, rfl, rfl, rfl, rfl, rfl, rfl, rfl, rfl, rfl, rfl, rfl, rfl, trivial⟩ ?_;refine GE_plain (.st 0 (.st 1 (.ld 2 [] .nil))) rfl ?_;refine GT_st rfl rfl rfl rfl (V_move rfl rfl) ?_;refine GT_st rfl rfl rfl rfl (V_add rfl rfl rfl (wrap_i64 (by omega))) ?_;refine GT_ldv rfl rfl rfl rfl rfl (V_assign rfl rfl) (GR_nil) ?_;refine GT_nil ?_
                        exact GE_to (ih (i + 1) (by omega) (by omega)) ⟨rfl, rfl, rfl, rfl, rfl, rfl, rfl, rfl, rfl, trivial⟩ (HS.chunk (HS.chunk HS.last))
                      · refine GE_seq ?_;refine GE_slots (L' := [(0, _), (1, _), (7, _), (10, _), (11, _), (12, _), (14, _), (20, _), (21, _), (22, _), (23, _)]) ⟨rfl, rfl, rfl, rfl, rfl, rfl, rfl, rfl, rfl, rfl, rfl, trivial⟩ ?_;refine GE_plain (.st 0 (.st 1 .nil)) rfl ?_;refine GT_st rfl rfl rfl rfl (V_field rfl rfl fo_120_2) ?_;refine GT_st rfl rfl rfl rfl (V_load rfl rfl ag_4 (CellAt.item rfl)) ?_;refine GT_nil ?_;refine GE_condB rfl (fun q12 => ?_) (fun q12 => ?_)
                        · subst q12
                          refine GE_plain (.st 0 (.st 1 (.ld 2 [] .nil))) rfl ?_;refine GT_st rfl rfl rfl rfl (V_move rfl rfl) ?_;refine GT_st rfl rfl rfl rfl (V_add rfl rfl rfl ((wrap_i64 (by omega)))) ?_;refine GT_ldv rfl rfl rfl rfl rfl (V_assign rfl rfl) (GR_nil) ?_;refine GT_nil ?_
                          first | exact GE_to (hk (2 * (r * gC f + cc) + 1) ⟨by omega, by rw [shN_at (by omega), if_pos (by omega), shv_at hcl (by decide)]; exact hcel⟩) ⟨rfl, rfl, rfl, rfl, rfl, rfl, rfl, rfl, rfl, rfl, rfl, trivial⟩ (HS.cons rfl (HS.chunk (HS.chunk HS.last))) | exact GE_to (hk (2 * (r * gC f + cc)) ⟨by omega, by rw [shN_at (by omega), if_pos (by omega)]; have e := shv_at (l := l) (p := p) (f := f) (r := r) (k := 0) hcl (by decide); rw [Nat.add_zero] at e; rw [e]; have e2 : bk = decide (((0 : Nat) : Int) = 1) := (by revert q12; cases bk <;> decide); rw [← e2]; exact hcel⟩) ⟨rfl, rfl, rfl, rfl, rfl, rfl, rfl, rfl, rfl, rfl, rfl, trivial⟩ (HS.cons rfl (HS.chunk (HS.chunk HS.last)))
                        · refine GE_skip ?_
                          first | exact GE_to (hk (2 * (r * gC f + cc) + 1) ⟨by omega, by rw [shN_at (by omega), if_pos (by omega), shv_at hcl (by decide)]; exact hcel⟩) ⟨rfl, rfl, rfl, rfl, rfl, rfl, rfl, rfl, rfl, rfl, rfl, trivial⟩ (HS.cons rfl (HS.chunk (HS.chunk HS.last))) | exact GE_to (hk (2 * (r * gC f + cc)) ⟨by omega, by rw [shN_at (by omega), if_pos (by omega)]; have e := shv_at (l := l) (p := p) (f := f) (r := r) (k := 0) hcl (by decide); rw [Nat.add_zero] at e; rw [e]; have e2 : bk = decide (((0 : Nat) : Int) = 1) := (by revert q12; cases bk <;> decide); rw [← e2]; exact hcel⟩) ⟨rfl, rfl, rfl, rfl, rfl, rfl, rfl, rfl, rfl, rfl, rfl, trivial⟩ (HS.cons rfl (HS.chunk (HS.chunk HS.last)))
                    · obtain rfl : i = (pagesL f).length := (by omega); rw [List.take_of_length_le (by omega)]
                      refine GE_exit rfl ?_;refine GE_seq ?_;refine GE_slots (L' := [(0, _), (1, _), (7, _), (20, _)]) ⟨rfl, rfl, rfl, rfl, trivial⟩ ?_;refine GE_plain (.st 0 (.st 1 (.ld 2 [] (.st 3 (.st 4 (.st 5 (.st 6 (.st 7 .nil)))))))) rfl ?_;refine GT_st rfl rfl rfl rfl (V_move rfl rfl) ?_;refine GT_st rfl rfl rfl rfl (V_move rfl rfl) ?_;refine GT_call rfl rfl rfl rfl rfl rfl rfl rfl rn_45 (fun w hw => C_ParseOk (E.sh hw) (h.sh hw) hg) (fun _ _ => GR_nil) (fun yq hyq => ?_)
                      refine GT_st rfl rfl rfl rfl (V_move rfl rfl) ?_;refine GT_st rfl rfl rfl rfl (V_extract rfl rfl rfl) ?_;refine GT_st rfl rfl rfl rfl (V_extract rfl rfl rfl) ?_;refine GT_st rfl rfl rfl rfl (V_assign rfl rfl) ?_;refine GT_st rfl rfl rfl rfl (V_assign rfl rfl) ?_;refine GT_nil ?_;refine GE_seq ?_;refine GE_seq ?_;refine GE_slots (L' := [(1, _), (7, _), (8, _), (20, _), (24, _)]) ⟨rfl, rfl, rfl, rfl, rfl, trivial⟩ ?_;refine GE_plain (.st 0 (.st 1 (.st 2 (.st 3 (.st 4 (.st 5 (.st 6 (.st 7 (.st 8 (.st 9 (.st 10 (.st 11 (.st 12 (.st 13 .nil)))))))))))))) rfl ?_;refine GT_st rfl rfl rfl rfl (V_move rfl rfl) ?_;refine GT_st rfl rfl rfl rfl (V_move rfl rfl) ?_;refine GT_st rfl rfl rfl rfl (V_isF (V_neqStr rfl rfl rfl) (fun q => q rfl)) ?_;refine GT_st rfl rfl rfl rfl (V_move rfl rfl) ?_;refine GT_st_g rfl rfl rfl rfl rfl rfl rfl (V_move rfl rfl) ?_;refine GT_st_g rfl rfl rfl rfl rfl rfl rfl (V_isF (V_neq rfl rfl rfl) (fun q => q rfl)) ?_;refine GT_st rfl rfl rfl rfl (V_pick_f rfl rfl rfl) ?_;refine GT_st rfl rfl rfl rfl (V_move rfl rfl) ?_;refine GT_st_g rfl rfl rfl rfl rfl rfl rfl (V_move rfl rfl) ?_;refine GT_st_g rfl rfl rfl rfl rfl rfl rfl (V_len rfl Tryz.underlying108 rfl) ?_;refine GT_st_g rfl rfl rfl rfl rfl rfl rfl (V_move rfl rfl) ?_;refine GT_st_g rfl rfl rfl rfl rfl rfl rfl (V_len rfl Tryz.underlying108 rfl) ?_;refine GT_st_g rfl rfl rfl rfl rfl rfl rfl (V_isF (V_neq rfl rfl rfl) (fun q => q rfl)) ?_;refine GT_st rfl rfl rfl rfl (V_pick_f rfl rfl rfl) ?_;refine GT_nil ?_;refine GE_cond_f rfl ?_;refine GE_skip ?_;refine GE_seq ?_;refine GE_seq ?_;refine GE_slots (L' := [(1, _), (24, _)]) ⟨rfl, rfl, trivial⟩ ?_;refine GE_plain (.st 0 .nil) rfl ?_;refine GT_st rfl rfl rfl rfl (V_assign rfl rfl) ?_;refine GT_nil ?_;refine GE_block ?_
                      refine GE_to (GE_loop (ι := Nat) (fun z => p.length - z) (fun z => [(1, .slice A2 p.length c2), (24, .slice yq.1 p.length yq.2.1), (25, I z)]) (fun z => yq.2.2 ++ (yp.2.2 ++ (yl.2.2 ++ I1))) (fun z => z ≤ p.length) ?_ 0 ?_) ⟨rfl, rfl, rfl, trivial⟩ (HS.chunk (HS.chunk (HS.chunk HS.last)))
                      · rintro i hi ih
                        refine GE_seq ?_;refine GE_seq ?_;refine GE_plain (.st 0 (.st 1 (.st 2 (.st 3 .nil)))) rfl ?_;refine GT_st rfl rfl rfl rfl (V_move rfl rfl) ?_;refine GT_st rfl rfl rfl rfl (V_move rfl rfl) ?_;refine GT_st rfl rfl rfl rfl (V_len rfl Tryz.underlying108 rfl) ?_;refine GT_st rfl rfl rfl rfl (V_lss rfl rfl rfl) ?_;refine GT_nil ?_;refine GE_cond rfl (fun q13 => ?_) (fun q13 => ?_)
                        · have hil : i < p.length := (by omega)
                          refine GE_skip ?_;refine GE_seq ?_;refine GE_block ?_;refine GE_seq ?_;refine GE_slots (L' := [(1, _), (24, _), (25, _)]) ⟨rfl, rfl, rfl, trivial⟩ ?_;refine GE_drawn (.st 0 (.st 1 (.st 2 (.st 3 (.st 4 (.st 5 (.st 6 (.st 7 (.st 8 .nil))))))))) [] (by decide +kernel) ?_;refine GT_st rfl rfl rfl rfl (V_move rfl rfl) ?_;refine GT_st rfl rfl rfl rfl (V_move rfl rfl) ?_;refine GT_st rfl rfl rfl rfl (V_index rfl rfl rfl Tryz.underlying108 sz_124 rfl hil (hyq.isSome (k := i) hil)) ?_;refine GT_st rfl rfl rfl rfl (V_loadN (vs := [_, _, _, _, _, _, _]) rfl rfl ag_124 sz_124 rfl (CellsAt.ownE hyq ePrt_len hil rfl)) ?_;refine GT_st rfl rfl rfl rfl (V_move rfl rfl) ?_;refine GT_st rfl rfl rfl rfl (V_move rfl rfl) ?_;refine GT_st rfl rfl rfl rfl (V_index rfl rfl rfl Tryz.underlying108 sz_124 rfl hil (hp.isSome (k := i) hil)) ?_;refine GT_st rfl rfl rfl rfl (V_loadN (vs := [_, _, _, _, _, _, _]) rfl rfl ag_124 sz_124 rfl (hp.ats noM hil)) ?_;refine GT_st rfl rfl rfl rfl (V_neqSelf (cs := ePrt (p.getD i default)) rfl rfl rfl ip_prt (by kernel_rfl)) ?_;refine GT_nil ?_;refine GE_cond_f rfl ?_;refine GE_skip ?_;refine GE_inBlock ?_;refine GE_slots (L' := [(1, _), (24, _), (25, _)]) ⟨rfl, rfl, rfl, trivial⟩ ?_;refine GE_plain (.st 0 (.st 1 (.ld 2 [] .nil))) rfl ?_;refine GT_st rfl rfl rfl rfl (V_move rfl rfl) ?_;refine GT_st rfl rfl rfl rfl (V_add rfl rfl rfl (wrap_i64 (by omega))) ?_;refine GT_ldv rfl rfl rfl rfl rfl (V_assign rfl rfl) (GR_nil) ?_;refine GT_nil ?_
                          exact GE_to (ih (i + 1) (by omega) (by omega)) ⟨rfl, rfl, rfl, trivial⟩ (HS.chunk (HS.chunk (HS.chunk HS.last)))
                        · refine GE_exit rfl ?_;refine GE_seq ?_;refine GE_slots (L' := []) trivial ?_;refine GE_plain (.ld 0 [] (.st 1 .nil)) rfl ?_;refine GT_call0 rfl rfl rfl rfl rfl rfl rfl rfl rn_30 (fun w hw => Wks.C_works10 (hG.sh hw)) (GR_nil) ?_;refine GT_st rfl rfl rfl rfl (V_assign rfl rfl) ?_;refine GT_nil ?_;refine GE_ret Tryz.func7 rfl (fun w hw => ⟨?_, hw.nil⟩)
                          rfl
                      · exact Nat.zero_le _
                  · exact Nat.zero_le _
              · exact ⟨Nat.zero_le _, by dsimp only; rw [Nat.zero_mul, shN_zero]; exact Own.made (x := ([] : List UInt8)) rfl (by unfold maxLen; omega)⟩
          · exact Nat.zero_le _
end
end Go.Proofs.YtpbflnfcgcldkaaGreatDoor.Ins
