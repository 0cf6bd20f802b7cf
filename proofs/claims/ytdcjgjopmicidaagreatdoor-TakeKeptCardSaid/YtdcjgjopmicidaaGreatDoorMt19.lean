/- Texts of this proof, one behind the other: TaN, TdR. -/
import Derived.Test.YtdcjgjopmicidaaGreatDoorMt18
/- A file with one byte changed, or without its last byte, is none: in plain Lean. -/
namespace Go.Proofs.YtdcjgjopmicidaaGreatDoor
open Go.Sx

def sumB : List UInt8 → Int
  | [] => 0
  | x :: l => (x.toNat : Int) + sumB l
theorem adl_fst : ∀ (l : List UInt8) (c : Int × Int), (adl c l).1 % 65521 = (c.1 + sumB l) % 65521
  | [], c => by show c.1 % 65521 = (c.1 + 0) % 65521; rw [Int.add_zero]
  | x :: l, c => by
    have ih := adl_fst l (add1 c x)
    show (adl (add1 c x) l).1 % 65521 = (c.1 + ((x.toNat : Int) + sumB l)) % 65521
    rw [ih]
    unfold add1; dsimp only
    omega
theorem sumB_set : ∀ (l : List UInt8) (k : Nat) (v : UInt8), k < l.length → sumB (l.set k v) = sumB l - ((l.getD k default).toNat : Int) + (v.toNat : Int)
  | [], _, _, h => by cases h
  | x :: l, 0, v, _ => by
    show (v.toNat : Int) + sumB l = (x.toNat : Int) + sumB l - ((x.toNat : Nat) : Int) + (v.toNat : Int)
    omega
  | x :: l, k + 1, v, h => by
    have ih := sumB_set l k v (by simpa using h)
    show (x.toNat : Int) + sumB (l.set k v) = (x.toNat : Int) + sumB l - ((l.getD k default).toNat : Int) + (v.toNat : Int)
    rw [ih]; omega
theorem sby_length : ∀ l : List Sam, (l.flatMap sby).length = 4 * l.length
  | [] => rfl
  | x :: l => by
    rw [List.flatMap_cons, List.length_append, sby_length l, List.length_cons]
    simp only [sby, List.length_append, two_len]; omega
theorem bod_length (x : TD) : (bod x).length = 3 + x.1.size + 2 + 4 * x.2.length := by
  have h1 : (byz x.1).length = x.1.size := byz_len _
  have h2 : (hd3 x).length = 3 := rfl
  rw [bod, List.length_append, List.length_append, List.length_append, sby_length, h1, h2, two_len]
theorem pkD_length (x : TD) : (pkD x).length = (bod x).length + 4 := by rw [pkD, List.length_append, chk_len]
theorem two_inj {a b : Int} (ha : 0 ≤ a ∧ a ≤ 65535) (hb : 0 ≤ b ∧ b ≤ 65535) (h : two a = two b) : a = b := by
  have h1 := tw_two ha []
  have h2 := tw_two hb []
  rw [h, h2] at h1; exact h1.symm
theorem chk_inj {l m : List UInt8} (h : chk l = chk m) : (adl cs0 l).1 = (adl cs0 m).1 := by
  have h1 := csIn_adl (l := l) csIn0
  have h2 := csIn_adl (l := m) csIn0
  unfold csIn at h1 h2
  have h3 : two (adl cs0 l).1 = two (adl cs0 m).1 := (List.append_inj h rfl).2
  exact two_inj (by omega) (by omega) h3
theorem bod_take (x : TD) : (pkD x).take (bod x).length = bod x := List.take_left
theorem chk_drop (x : TD) : (pkD x).drop (bod x).length = chk (bod x) := List.drop_left
theorem kept1 {x y : TD} {k : Nat} {v : UInt8} (hk : k < (pkD x).length) (hv : v ≠ (pkD x).getD k default) (h : pkD y = (pkD x).set k v) : False := by
  have hl : (bod y).length = (bod x).length := by
    have := congrArg List.length h
    rw [List.length_set, pkD_length, pkD_length] at this; omega
  have hb : bod y = ((pkD x).set k v).take (bod x).length := by rw [← h, ← hl, bod_take]
  have hc : chk (bod y) = ((pkD x).set k v).drop (bod x).length := by rw [← h, ← hl, chk_drop]
  rcases Nat.lt_or_ge k (bod x).length with q | q
  · rw [List.take_set, bod_take] at hb
    rw [List.drop_set_of_lt q, chk_drop] at hc
    have e := chk_inj hc
    have e1 := adl_fst (bod y) cs0
    have e2 := adl_fst (bod x) cs0
    rw [e, e2, hb, sumB_set _ _ _ q] at e1
    have hg : (bod x).getD k default = (pkD x).getD k default := by
      rw [pkD]; simp [List.getD, List.getElem?_append_left q]
    have n1 := v.toNat_lt
    have n2 := ((bod x).getD k default).toNat_lt
    refine hv (UInt8.toNat_inj.1 ?_)
    rw [← hg]
    omega
  · rw [List.take_set_of_le q, bod_take] at hb
    have e : pkD y = pkD x := by rw [pkD, pkD, hb]
    rw [e] at h
    have : (pkD x).getD k default = v := by
      rw [h]; simp [List.getD, hk]
    exact hv this.symm
theorem pk_nm {x : TD} (h : TdOk x) : ((pkD x).getD 2 default).toNat = x.1.size := by
  have hn := h.nm
  have : (((by8 x.1.size).toNat : Nat) : Int) = (x.1.size : Int) % 256 := by8_nat _
  have e : (pkD x).getD 2 default = by8 x.1.size := by rw [pkD_split]; rfl
  rw [e]; omega
theorem pk_cnt {x : TD} (h : TdOk x) : get2 (pkD x) (3 + x.1.size) = x.2.length := by
  have hm := h.most
  have hl : (hd3 x ++ byz x.1).length = 3 + x.1.size := by rw [List.length_append, byz_len]; rfl
  have e3 : pkD x = (hd3 x ++ byz x.1) ++ (two x.2.length ++ (x.2.flatMap sby ++ chk (bod x))) := by rw [pkD_split, List.append_assoc]
  rw [e3]
  exact (get2_app (k := 0) hl).trans (get2_two (by omega) _)
theorem getD_take {b : List UInt8} {j i : Nat} (h : i < j) : (b.take j).getD i default = b.getD i default := by
  simp [List.getD, h]
theorem get2_take {b : List UInt8} {j i : Nat} (h : i + 1 < j) : get2 (b.take j) i = get2 b i := by
  unfold get2
  rw [getD_take (by omega), getD_take h, List.length_take]
  by_cases q : i + 1 < b.length
  · rw [if_pos q, if_pos (by omega)]
  · rw [if_neg q, if_neg (by omega)]
theorem kept2 {x y : TD} (hx : TdOk x) (hy : TdOk y) (h : pkD y = (pkD x).take ((pkD x).length - 1)) : False := by
  have lx := pkD_length x
  have ly := pkD_length y
  rw [bod_length] at lx ly
  have hl : (pkD y).length = (pkD x).length - 1 := by rw [h, List.length_take]; omega
  have n1 : y.1.size = x.1.size := by
    rw [← pk_nm hy, ← pk_nm hx, h, getD_take (by omega)]
  have n2 : y.2.length = x.2.length := by
    have e1 := pk_cnt hy
    have e2 := pk_cnt hx
    rw [n1, h, get2_take (by omega), e2] at e1
    omega
  omega
theorem un1_ok {x : TD} (h : tkE x = 0) : un1 (pkD x) = (x, 0) := by
  have ho := tkE_ok h
  have hl := pkD_length x
  rw [bod_length] at hl
  have h1 := ho.most; have h2 := ho.nm
  rw [un1, if_neg (by omega), par1_pk ho]
  exact if_pos ⟨h, rfl⟩
theorem un1_zero {b : List UInt8} (h : (un1 b).2 = 0) : tkE (un1 b).1 = 0 ∧ pkD (un1 b).1 = b := by
  unfold un1 at h ⊢
  split at h
  · cases h
  · rename_i q
    rw [if_neg q]
    unfold unp at h ⊢
    split at h
    · rename_i q2
      rw [if_pos q2]; exact q2
    · cases h
theorem un1_none {b : List UInt8} (hl : b.length ≤ 65536) (h : ∀ y, TdOk y → pkD y ≠ b) : un1 b = (td0, 8) := by
  rw [un1, if_neg (by omega)]
  refine if_neg ?_
  rintro ⟨h1, h2⟩
  exact h _ (tkE_ok h1) h2
theorem pkD_small {x : TD} (h : TdOk x) : (pkD x).length ≤ 65536 ∧ 13 ≤ (pkD x).length := by
  have hl := pkD_length x
  rw [bod_length] at hl
  have h1 := h.most; have h2 := h.nm; have h3 := h.one
  omega
end Go.Proofs.YtdcjgjopmicidaaGreatDoor
/- TakeKept, walked. -/
namespace Go.Proofs.YtdcjgjopmicidaaGreatDoor
open Go.Sx Go.Proofs Go.RowKit

theorem own_cap {α : Type} {sz e : Nat} {enc : α → List Value} {l : List α} {A : Option Addr} {c : Nat} {I : Items} (h : Own sz e enc l (.slice A l.length c) I) : l.length ≤ c := by
  rcases h with ⟨h1, h2, _⟩ | ⟨g, c', rest, h1, _, _, h4, _⟩
  · rw [h2]; exact Nat.zero_le _
  · injection h1 with _ _ h1; rw [h1]; exact h4
theorem un1_size (b : List UInt8) : ((un1 b).1.1).size ≤ 20 ∧ (un1 b).1.2.length ≤ 4096 := by
  by_cases h : 65536 < b.length
  · have e : un1 b = (td0, 7) := if_pos h
    rw [e]; exact ⟨Nat.zero_le _, Nat.zero_le _⟩
  · have e : un1 b = unp (par1 b) b := if_neg h
    rw [e]
    unfold unp
    split
    · rename_i h; exact ⟨(tkE_ok h.1).nm, (tkE_ok h.1).most⟩
    · exact ⟨Nat.zero_le _, Nat.zero_le _⟩
/-- a byte that is changed -/
def chg (x : UInt8) (z : Int) : UInt8 := by8 ((x.toNat : Int) + (1 + z.tmod 255))
theorem chg_ne {x : UInt8} {z : Int} (hz : 0 ≤ z ∧ z ≤ 255) : chg x z ≠ x := by
  intro h
  have h1 := by8_nat ((x.toNat : Int) + (1 + z.tmod 255))
  have h2 := x.toNat_lt
  have e : z.tmod 255 = z % 255 := Int.tmod_eq_emod_of_nonneg hz.1
  have h3 : ((by8 ((x.toNat : Int) + (1 + z.tmod 255))).toNat : Int) = x.toNat := congrArg (fun u : UInt8 => (u.toNat : Int)) h
  rw [h1, e] at h3
  omega
theorem un1_set {x : TD} (hx : TdOk x) {k : Nat} (hk : k < (pkD x).length) {v : UInt8} (hv : v ≠ (pkD x).getD k default) : un1 ((pkD x).set k v) = (td0, 8) :=
  un1_none (by rw [List.length_set]; exact (pkD_small hx).1) fun _ _ h => kept1 hk hv h
theorem un1_cut {x : TD} (hx : TdOk x) : un1 ((pkD x).take ((pkD x).length - 1)) = (td0, 8) :=
  un1_none (by rw [List.length_take]; have := (pkD_small hx).1; omega) fun _ hy h => kept2 hx hy h
section
variable {w : World} {A A2 B : Option Addr} {c c2 c3 : Nat} {l : List Tk} {p : List Prt} {b s : List UInt8} {at' by' : Int}
theorem C_sameTk {n1 n2 : ByteArray} {d1 d2 : List Sam} (ha : RdL w 2 eSam A d1) (hb : RdL w 2 eSam B d2) (hn : n1 = n2) (hd : d1 = d2) (hl : d1.length ≤ 1000000) : Con0 Tryz.prog 14 [.agg #[.string n1, .slice A d1.length c], .agg #[.string n2, .slice B d2.length c2]] w (.bool true) := by
  subst hn; subst hd
  refine Ret_of (vs := [_, _]) hm none' Tryz.func14 rfl Tryz.ntmps14 rfl ?_
  dsimp only [slotsOf]
  refine GE_seq ?_
  refine GE_plain (.ld 0 [] (.ld 1 [] (.st 2 .nil))) rfl ?_
  refine GT_box (z := [_, _]) rfl rfl rfl rfl rfl rfl rfl (fun _ => GR_nil) (fun b2 => ?_)
  refine GT_box (z := [_, _]) rfl rfl rfl rfl rfl rfl rfl (fun _ => GR_nil) (fun b3 => ?_)
  refine GT_st rfl rfl rfl rfl (V_assign rfl rfl) ?_
  refine GT_nil ?_
  refine GE_seq ?_
  refine GE_plain (.st 0 (.st 1 (.st 2 (.st 3 (.st 4 (.st 5 (.st 6 (.st 7 (.st 8 (.st 9 (.ld 10 [] (.st 11 (.st 12 .nil))))))))))))) rfl ?_
  first | refine GT_st rfl rfl rfl rfl (V_field rfl rfl fo_39_0) ?_ | refine GT_st rfl rfl rfl rfl (V_fieldA rfl rfl fo_39_0) ?_
  refine GT_st rfl rfl rfl rfl (V_load rfl rfl ag_9 (CellAt.item rfl)) ?_
  first | refine GT_st rfl rfl rfl rfl (V_field rfl rfl fo_39_0) ?_ | refine GT_st rfl rfl rfl rfl (V_fieldA rfl rfl fo_39_0) ?_
  refine GT_st rfl rfl rfl rfl (V_load rfl rfl ag_9 (CellAt.item rfl)) ?_
  refine GT_st rfl rfl rfl rfl (V_isT (V_eqlStr rfl rfl rfl) rfl) ?_
  refine GT_st rfl rfl rfl rfl (V_move rfl rfl) ?_
  first | refine GT_st_g rfl rfl rfl rfl rfl rfl rfl (V_field rfl rfl fo_39_1) ?_ | refine GT_st_g rfl rfl rfl rfl rfl rfl rfl (V_fieldA rfl rfl fo_39_1) ?_
  refine GT_st_g rfl rfl rfl rfl rfl rfl rfl (V_load rfl rfl ag_37 (CellAt.item rfl)) ?_
  first | refine GT_st_g rfl rfl rfl rfl rfl rfl rfl (V_field rfl rfl fo_39_1) ?_ | refine GT_st_g rfl rfl rfl rfl rfl rfl rfl (V_fieldA rfl rfl fo_39_1) ?_
  refine GT_st_g rfl rfl rfl rfl rfl rfl rfl (V_load rfl rfl ag_37 (CellAt.item rfl)) ?_
  refine GT_call0_g rfl rfl rfl rfl rfl rfl rfl rfl rfl rfl rfl rn_38 (fun w hw => C_Same (by omega) (ha.sh hw) (hb.sh hw)) (GR_nil) ?_
  refine GT_st rfl rfl rfl rfl (V_pick_t rfl rfl rfl) ?_
  refine GT_st rfl rfl rfl rfl (V_assign rfl rfl) ?_
  refine GT_nil ?_
  refine GE_ret Tryz.func14 rfl (fun w hw => ⟨?_, hw.nil⟩)
  refine congrArg Value.bool ?_; simp
theorem C_UnpackN {n : Nat} (hn : b.length = n) (h : RdL w 1 eU A b) (hc : n ≤ c) : Con Tryz.prog 13 [.slice A n c] w (fun y : Option Addr × Nat × Items => Own 2 52 eSam (un1 b).1.2 (.slice y.1 (un1 b).1.2.length y.2.1) y.2.2)
    (fun y => .tuple #[.agg #[.string (un1 b).1.1, .slice y.1 (un1 b).1.2.length y.2.1], I (un1 b).2]) (fun y => y.2.2) := by
  subst hn; exact C_Unpack h hc
set_option maxRecDepth 20000 in
set_option maxHeartbeats 4000000 in
theorem L_TakeKept (E : Env w) (h : Tks w A l) (hx0 : l.length ≤ c ∧ c ≤ maxLen) (hp : RdL w 7 ePrt A2 p) (_ : p.length ≤ c2 ∧ c2 ≤ maxLen ∧ ∀ x ∈ p, x.wf) (hb : RdL w 1 eU B b) (hc : b.length ≤ c3 ∧ c3 ≤ maxLen) (hat : 0 ≤ at' ∧ at' ≤ 65535) (hby : 0 ≤ by' ∧ by' ≤ 255) :
    Con0 Tryz.prog 4 [.slice A l.length c, .slice A2 p.length c2, .slice B b.length c3, .string (stz s), .int .u16 at', .int .u8 by'] w (.bool true) := by
  have hsz := stz_size s
  have hub := un1_size b
  have hll : l.length ≤ 9223372036854775807 := by unfold maxLen at hx0; omega
  refine Ret_of (vs := [_, _, _, _, _, _]) hm none' Tryz.func4 rfl Tryz.ntmps4 rfl ?_
  dsimp only [slotsOf]
  refine GE_seq ?_
  refine GE_plain (.st 0 .nil) rfl ?_
  refine GT_st rfl rfl rfl rfl (V_assign rfl rfl) ?_
  refine GT_nil ?_
  refine GE_seq ?_
  refine GE_seq ?_
  refine GE_plain (.st 0 (.st 1 (.ld 2 [] (.st 3 (.st 4 (.st 5 (.st 6 (.st 7 (.st 8 (.st 9 (.st 10 (.st 11 (.st 12 .nil))))))))))))) rfl ?_
  refine GT_st rfl rfl rfl rfl (V_move rfl rfl) ?_
  refine GT_st rfl rfl rfl rfl (V_move rfl rfl) ?_
  refine GT_call0 rfl rfl rfl rfl rfl rfl rfl rfl rn_5 (fun w hw => C_great (h.sh hw)) (GR_nil) ?_
  refine GT_st rfl rfl rfl rfl (V_move rfl rfl) ?_
  first | refine GT_splitNot (d := 32) rfl (fun q1 => ?_) (fun q1 => ?_) | refine GT_split (d := 32) rfl (fun q1 => ?_) (fun q1 => ?_) | refine GT_splitNotB (d := 32) rfl (fun q1 => ?_) (fun q1 => ?_) | refine GT_splitB (d := 32) rfl (fun q1 => ?_) (fun q1 => ?_)
  · skip
    refine GT_skip rfl rfl rfl rfl rfl (by decide) rfl rfl ?_
    refine GT_skip rfl rfl rfl rfl rfl (by decide) rfl rfl ?_
    refine GT_skip rfl rfl rfl rfl rfl (by decide) rfl rfl ?_
    refine GT_st rfl rfl rfl rfl (V_pick_t rfl rfl rfl) ?_
    refine GT_st rfl rfl rfl rfl (V_move rfl rfl) ?_
    refine GT_skip rfl rfl rfl rfl rfl (by decide) rfl rfl ?_
    refine GT_skip rfl rfl rfl rfl rfl (by decide) rfl rfl ?_
    refine GT_skip rfl rfl rfl rfl rfl (by decide) rfl rfl ?_
    refine GT_st rfl rfl rfl rfl (V_pick_t rfl rfl rfl) ?_
    refine GT_nil ?_
    refine GE_cond_t rfl ?_
    refine GE_seq ?_
    refine GE_slots (L' := []) trivial ?_
    refine GE_plain (.ld 0 [] (.st 1 .nil)) rfl ?_
    refine GT_call0 rfl rfl rfl rfl rfl rfl rfl rfl rn_6 (fun w hw => C_Works) (GR_nil) ?_
    refine GT_st rfl rfl rfl rfl (V_assign rfl rfl) ?_
    refine GT_nil ?_
    refine GE_ret Tryz.func4 rfl (fun w hw => ⟨?_, hw.nil⟩)
    rfl
  · skip
    refine GT_st_g rfl rfl rfl rfl rfl rfl rfl (V_move rfl rfl) ?_
    refine GT_st_g rfl rfl rfl rfl rfl rfl rfl (V_len rfl Tryz.underlying33 rfl) ?_
    refine GT_st_g rfl rfl rfl rfl rfl rfl rfl (V_gtr rfl rfl rfl) ?_
    refine GT_st rfl rfl rfl rfl (V_pick_f rfl rfl rfl) ?_
    refine GT_st rfl rfl rfl rfl (V_move rfl rfl) ?_
    first | refine GT_splitNot (d := 37) rfl (fun q2 => ?_) (fun q2 => ?_) | refine GT_split (d := 37) rfl (fun q2 => ?_) (fun q2 => ?_) | refine GT_splitNotB (d := 37) rfl (fun q2 => ?_) (fun q2 => ?_) | refine GT_splitB (d := 37) rfl (fun q2 => ?_) (fun q2 => ?_)
    · skip
      refine GT_skip rfl rfl rfl rfl rfl (by decide) rfl rfl ?_
      refine GT_skip rfl rfl rfl rfl rfl (by decide) rfl rfl ?_
      refine GT_skip rfl rfl rfl rfl rfl (by decide) rfl rfl ?_
      refine GT_st rfl rfl rfl rfl (V_pick_t rfl rfl rfl) ?_
      refine GT_nil ?_
      refine GE_cond_t rfl ?_
      refine GE_seq ?_
      refine GE_slots (L' := []) trivial ?_
      refine GE_plain (.ld 0 [] (.st 1 .nil)) rfl ?_
      refine GT_call0 rfl rfl rfl rfl rfl rfl rfl rfl rn_6 (fun w hw => C_Works) (GR_nil) ?_
      refine GT_st rfl rfl rfl rfl (V_assign rfl rfl) ?_
      refine GT_nil ?_
      refine GE_ret Tryz.func4 rfl (fun w hw => ⟨?_, hw.nil⟩)
      rfl
    · skip
      refine GT_st_g rfl rfl rfl rfl rfl rfl rfl (V_move rfl rfl) ?_
      refine GT_st_g rfl rfl rfl rfl rfl rfl rfl (V_len_str rfl Tryz.underlying9 rfl) ?_
      refine GT_st_g rfl rfl rfl rfl rfl rfl rfl (V_gtr rfl rfl rfl) ?_
      refine GT_st rfl rfl rfl rfl (V_pick_f rfl rfl rfl) ?_
      refine GT_nil ?_
      first | refine GE_condNot rfl (fun q3 => ?_) (fun q3 => ?_) | refine GE_cond rfl (fun q3 => ?_) (fun q3 => ?_) | refine GE_condNotB rfl (fun q3 => ?_) (fun q3 => ?_) | refine GE_condB rfl (fun q3 => ?_) (fun q3 => ?_)
      · skip
        refine GE_seq ?_
        refine GE_slots (L' := []) trivial ?_
        refine GE_plain (.ld 0 [] (.st 1 .nil)) rfl ?_
        refine GT_call0 rfl rfl rfl rfl rfl rfl rfl rfl rn_6 (fun w hw => C_Works) (GR_nil) ?_
        refine GT_st rfl rfl rfl rfl (V_assign rfl rfl) ?_
        refine GT_nil ?_
        refine GE_ret Tryz.func4 rfl (fun w hw => ⟨?_, hw.nil⟩)
        rfl
      · skip
        refine GE_skip ?_
        refine GE_seq ?_
        refine GE_seq ?_
        refine GE_slots (L' := [(0, _), (1, _), (2, _), (3, _), (4, _), (5, _)]) ⟨rfl, rfl, rfl, rfl, rfl, rfl, trivial⟩ ?_
        refine GE_plain (.st 0 .nil) rfl ?_
        refine GT_st rfl rfl rfl rfl (V_assign rfl rfl) ?_
        refine GT_nil ?_
        refine GE_block ?_
        refine GE_to (GE_loop (ι := Nat) (fun i => l.length - i) (fun i => [(0, .slice A l.length c), (1, .slice A2 p.length c2), (2, .slice B b.length c3), (3, .string (stz s)), (4, .int .u16 at'), (5, .int .u8 by'), (13, I i)]) (fun i => []) (fun i => i ≤ l.length) ?_ 0 ?_) ⟨rfl, rfl, rfl, rfl, rfl, rfl, rfl, trivial⟩ HS.nil
        · rintro i hi ih
          refine GE_seq ?_
          refine GE_seq ?_
          refine GE_plain (.st 0 (.st 1 (.st 2 (.st 3 .nil)))) rfl ?_
          refine GT_st rfl rfl rfl rfl (V_move rfl rfl) ?_
          refine GT_st rfl rfl rfl rfl (V_move rfl rfl) ?_
          refine GT_st rfl rfl rfl rfl (V_len rfl Tryz.underlying22 rfl) ?_
          refine GT_st rfl rfl rfl rfl (V_lss rfl rfl rfl) ?_
          refine GT_nil ?_
          first | refine GE_condNot rfl (fun q4 => ?_) (fun q4 => ?_) | refine GE_cond rfl (fun q4 => ?_) (fun q4 => ?_) | refine GE_condNotB rfl (fun q4 => ?_) (fun q4 => ?_) | refine GE_condB rfl (fun q4 => ?_) (fun q4 => ?_)
          · have hil : i < l.length := (by omega); have ht := h.2 _ (getD_mem hil)
            refine GE_skip ?_
            refine GE_seq ?_
            refine GE_block ?_
            refine GE_seq ?_
            refine GE_slots (L' := [(0, _), (1, _), (2, _), (3, _), (4, _), (5, _), (13, _)]) ⟨rfl, rfl, rfl, rfl, rfl, rfl, rfl, trivial⟩ ?_
            refine GE_plain (.st 0 (.st 1 (.st 2 (.st 3 (.ld 4 [] (.st 5 (.st 6 (.st 7 (.st 8 (.st 9 .nil)))))))))) rfl ?_
            refine GT_st rfl rfl rfl rfl (V_move rfl rfl) ?_
            refine GT_st rfl rfl rfl rfl (V_move rfl rfl) ?_
            refine GT_st rfl rfl rfl rfl (V_index rfl rfl rfl Tryz.underlying22 sz_39 (k := i) rfl hil (h.1.isSome hil)) ?_
            refine GT_st rfl rfl rfl rfl (V_loadN (vs := [_, _]) rfl rfl ag_39 sz_39 rfl (show CellsAt _ _ _ (eTk (l.getD i default)) from h.1.ats noM hil)) ?_
            refine GT_call rfl rfl rfl rfl rfl rfl rfl rfl rn_12 (fun w hw => C_Pack (t := l.getD i default) (ht.1.sh hw) ht.2.1) (fun _ _ => GR_nil) (fun x hx => ?_)
            refine GT_st rfl rfl rfl rfl (V_move rfl rfl) ?_
            refine GT_st rfl rfl rfl rfl (V_extract rfl rfl rfl) ?_
            refine GT_st rfl rfl rfl rfl (V_extract rfl rfl rfl) ?_
            refine GT_st rfl rfl rfl rfl (V_assign rfl rfl) ?_
            refine GT_st rfl rfl rfl rfl (V_assign rfl rfl) ?_
            refine GT_nil ?_
            refine GE_seq ?_
            refine GE_seq ?_
            refine GE_slots (L' := [(0, _), (1, _), (2, _), (3, _), (4, _), (5, _), (13, _), (14, _), (15, _)]) ⟨rfl, rfl, rfl, rfl, rfl, rfl, rfl, rfl, rfl, trivial⟩ ?_
            refine GE_plain (.st 0 (.st 1 .nil)) rfl ?_
            refine GT_st rfl rfl rfl rfl (V_move rfl rfl) ?_
            refine GT_st rfl rfl rfl rfl (V_neq rfl rfl rfl) ?_
            refine GT_nil ?_
            first | refine GE_condNot rfl (fun q5 => ?_) (fun q5 => ?_) | refine GE_cond rfl (fun q5 => ?_) (fun q5 => ?_) | refine GE_condNotB rfl (fun q5 => ?_) (fun q5 => ?_) | refine GE_condB rfl (fun q5 => ?_) (fun q5 => ?_)
            · skip
              refine GE_exit rfl ?_
              refine GE_slots (L' := [(0, _), (1, _), (2, _), (3, _), (4, _), (5, _), (13, _)]) ⟨rfl, rfl, rfl, rfl, rfl, rfl, rfl, trivial⟩ ?_
              refine GE_plain (.st 0 (.st 1 (.ld 2 [] .nil))) rfl ?_
              refine GT_st rfl rfl rfl rfl (V_move rfl rfl) ?_
              refine GT_st rfl rfl rfl rfl (V_add rfl rfl rfl (wrap_i64 (by omega))) ?_
              refine GT_ldv rfl rfl rfl rfl rfl (V_assign rfl rfl) (GR_nil) ?_
              refine GT_nil ?_
              exact GE_to (ih (i + 1) (by omega) (by omega)) ⟨rfl, rfl, rfl, rfl, rfl, rfl, rfl, trivial⟩ HS.nil
            · have q5 : tErr (l.getD i default) = 0 := (by omega); have ho := tkE_ok (x := ((l.getD i default).name, (l.getD i default).data)) q5; have hsm := pkD_small ho; have eP : pkL ((l.getD i default).name, (l.getD i default).data) = pkD ((l.getD i default).name, (l.getD i default).data) := if_pos q5; rw [eP] at hx ⊢
              refine GE_skip ?_
              refine GE_seq ?_
              refine GE_plain (.st 0 (.ld 1 [] (.st 2 (.st 3 (.st 4 (.ld 5 [] (.ld 6 [] (.st 7 .nil)))))))) rfl ?_
              refine GT_st rfl rfl rfl rfl (V_move rfl rfl) ?_
              refine GT_call rfl rfl rfl rfl rfl rfl rfl rfl rn_13 (fun w hw => C_Unpack (hx.rdH eU_len hw) (own_cap hx)) (fun _ _ => GR_nil) (fun u hu => ?_)
              have eu := un1_ok (x := ((l.getD i default).name, (l.getD i default).data)) q5; rw [eu] at hu ⊢
              refine GT_st rfl rfl rfl rfl (V_move rfl rfl) ?_
              refine GT_st rfl rfl rfl rfl (V_extract rfl rfl rfl) ?_
              refine GT_st rfl rfl rfl rfl (V_extract rfl rfl rfl) ?_
              refine GT_alloc rfl rfl rfl rfl rfl zc_39 (fun _ => GR_nil) (fun b16 => ?_)
              refine GT_store (vs := [_, _]) (l' := [_, _]) rfl rfl rfl rfl rfl rfl rfl sz_39 rfl rfl (Nat.le_of_ble_eq_true rfl) rfl (GR_nil) ?_
              refine GT_st rfl rfl rfl rfl (V_assign rfl rfl) ?_
              refine GT_nil ?_
              refine GE_seq ?_
              refine GE_seq ?_
              refine GE_slots (L' := [(0, _), (1, _), (2, _), (3, _), (4, _), (5, _), (13, _), (14, _), (16, _), (17, _)]) ⟨rfl, rfl, rfl, rfl, rfl, rfl, rfl, rfl, rfl, rfl, trivial⟩ ?_
              refine GE_drawn (.st 0 (.st 1 (.st 2 (.st 3 (.st 4 (.st 5 (.st 6 (.st 7 (.ld 8 [] (.st 9 (.st 10 (.st 11 (.st 12 (.st 13 (.st 14 (.st 15 .nil)))))))))))))))) [8] (by decide +kernel) ?_
              refine GT_st rfl rfl rfl rfl (V_move rfl rfl) ?_
              refine GT_st rfl rfl rfl rfl (V_isF (V_neq rfl rfl rfl) (fun q => q rfl)) ?_
              refine GT_st rfl rfl rfl rfl (V_move rfl rfl) ?_
              refine GT_st_g rfl rfl rfl rfl rfl rfl rfl (V_loadN (vs := [_, _]) rfl rfl ag_39 sz_39 rfl (CellsAt.item rfl)) ?_
              refine GT_st_g rfl rfl rfl rfl rfl rfl rfl (V_move rfl rfl) ?_
              refine GT_st_g rfl rfl rfl rfl rfl rfl rfl (V_move rfl rfl) ?_
              refine GT_st_g rfl rfl rfl rfl rfl rfl rfl (V_index rfl rfl rfl Tryz.underlying22 sz_39 (k := i) rfl hil (h.1.isSome hil)) ?_
              refine GT_st_g rfl rfl rfl rfl rfl rfl rfl (V_loadN (vs := [_, _]) rfl rfl ag_39 sz_39 rfl (show CellsAt _ _ _ (eTk (l.getD i default)) from h.1.ats noM hil)) ?_
              refine GT_call0_g rfl rfl rfl rfl rfl rfl rfl rfl rfl rfl rfl rn_14 (fun w hw => C_sameTk (hu.rdH eSam_len hw) (ht.1.sh hw) rfl rfl (by have hm9 : (l.getD i default).data.length ≤ 4096 := ho.most; show (l.getD i default).data.length ≤ 1000000; omega)) (GR_nil) ?_
              first | refine GT_st_g rfl rfl rfl rfl rfl rfl rfl (V_not rfl rfl) ?_ | refine GT_st_g rfl rfl rfl rfl rfl rfl rfl (V_notB rfl rfl) ?_
              refine GT_st rfl rfl rfl rfl (V_pick_f rfl rfl rfl) ?_
              refine GT_st rfl rfl rfl rfl (V_move rfl rfl) ?_
              refine GT_st_g rfl rfl rfl rfl rfl rfl rfl (V_move rfl rfl) ?_
              refine GT_st_g rfl rfl rfl rfl rfl rfl rfl (V_len rfl Tryz.underlying33 rfl) ?_
              refine GT_st_g rfl rfl rfl rfl rfl rfl rfl (V_isF (V_eql rfl rfl rfl) (by omega)) ?_
              refine GT_st rfl rfl rfl rfl (V_pick_f rfl rfl rfl) ?_
              refine GT_nil ?_
              refine GE_cond_f rfl ?_
              refine GE_skip ?_
              refine GE_seq ?_
              refine GE_slots (L' := [(0, _), (1, _), (2, _), (3, _), (4, _), (5, _), (13, _), (14, _), (67, _), (68, _), (69, _), (70, _), (71, _), (72, _), (73, _), (76, _), (77, _), (78, _)]) ⟨rfl, rfl, rfl, rfl, rfl, rfl, rfl, rfl, rfl, rfl, rfl, rfl, rfl, rfl, rfl, rfl, rfl, rfl, trivial⟩ ?_
              refine GE_plain (.ld 0 [] (.st 1 (.ld 2 [] (.st 3 .nil)))) rfl ?_
              refine GT_buildSlice (z := []) rfl rfl rfl rfl rfl Tryz.underlying33 zc_5 sz_5 (by decide) rfl rfl (fun _ => GR_nil) (fun b80 => ?_)
              have ho80 : Own 1 5 eU [] (.slice (some ⟨b80, 0, none⟩) 0 0) [(b80, blk [] 5)] := Own.lit rfl rfl (by decide)
              refine GT_st rfl rfl rfl rfl (V_move rfl rfl) ?_
              refine GT_append (enc := eU) (l := []) (m := pkD ((l.getD i default).name, (l.getD i default).data)) rfl rfl rfl rfl rfl rfl rfl ho80 (fun w m => hx.rdH eU_len m) Tryz.underlying33 zc_5 sz_5 ⟨rfl, by decide⟩ by_5 ⟨by have := hsm.1; simp only [List.length_nil]; omega, by have := hsm.1; simp only [List.length_nil]; omega⟩ eU_len eU_one (fun _ _ _ _ => GR_nil) (fun A3 c3' I3 hO3 => ?_)
              rw [List.nil_append] at hO3 ⊢; have hrem : at'.tmod ((pkD ((l.getD i default).name, (l.getD i default).data)).length : Int) = ((at'.toNat % (pkD ((l.getD i default).name, (l.getD i default).data)).length : Nat) : Int) := (by rw [Int.tmod_eq_emod_of_nonneg hat.1, Int.natCast_emod, Int.toNat_of_nonneg hat.1]); have hkk : at'.toNat % (pkD ((l.getD i default).name, (l.getD i default).data)).length < (pkD ((l.getD i default).name, (l.getD i default).data)).length := Nat.mod_lt _ (by have := hsm.2; omega); generalize hk9 : at'.toNat % (pkD ((l.getD i default).name, (l.getD i default).data)).length = kk at hrem hkk
              refine GT_st rfl rfl rfl rfl (V_assign rfl rfl) ?_
              refine GT_nil ?_
              refine GE_seq ?_
              refine GE_plain (.st 0 (.st 1 (.st 2 (.st 3 (.st 4 (.st 5 (.st 6 (.st 7 (.st 8 (.st 9 (.st 10 (.st 11 (.st 12 (.ld 13 [] .nil)))))))))))))) rfl ?_
              refine GT_st rfl rfl rfl rfl (V_move rfl rfl) ?_
              refine GT_st rfl rfl rfl rfl (V_move rfl rfl) ?_
              refine GT_st rfl rfl rfl rfl (V_convII rfl rfl (by rw [Tryz.underlying34]; rfl) Tryz.underlying3 (wrap_i64 (by omega))) ?_
              refine GT_st rfl rfl rfl rfl (V_move rfl rfl) ?_
              refine GT_st rfl rfl rfl rfl (V_len rfl Tryz.underlying33 rfl) ?_
              refine GT_st rfl rfl rfl rfl (V_rem rfl rfl rfl (by omega)) ?_
              refine GT_st rfl rfl rfl rfl (V_index rfl rfl rfl Tryz.underlying33 sz_5 (k := kk) hrem hkk (hO3.isSome (k := kk) hkk)) ?_
              refine GT_st rfl rfl rfl rfl (V_load rfl rfl ag_5 (CellAt.own0 (k := kk) hO3 eU_len hkk rfl)) ?_
              refine GT_st rfl rfl rfl rfl (V_move rfl rfl) ?_
              refine GT_st rfl rfl rfl rfl (V_rem rfl rfl rfl (by omega)) ?_
              refine GT_st rfl rfl rfl rfl (V_add rfl rfl rfl (wrap_u8 (by have e : by'.tmod 255 = by' % 255 := Int.tmod_eq_emod_of_nonneg hby.1; omega))) ?_
              refine GT_st rfl rfl rfl rfl (V_add rfl rfl rfl ((wrap_by8 _).trans (show _ = ((chg ((pkD ((l.getD i default).name, (l.getD i default).data)).getD kk default) by').toNat : Int) from rfl))) ?_
              refine GT_st rfl rfl rfl rfl (V_index rfl rfl rfl Tryz.underlying33 sz_5 (k := kk) hrem hkk (hO3.isSome (k := kk) hkk)) ?_
              refine GT_storeOwn (enc := eU) (q := kk) (xx := chg ((pkD ((l.getD i default).name, (l.getD i default).data)).getD kk default) by') rfl rfl rfl rfl rfl rfl rfl sz_5 hO3 eU_len eU_one hkk (by decide) (fun _ _ => GR_nil) (fun I4 hO4 => ?_)
              refine GT_nil ?_
              refine GE_seq ?_
              refine GE_slots (L' := [(0, _), (1, _), (2, _), (3, _), (4, _), (5, _), (13, _), (14, _), (18, _), (67, _), (68, _), (69, _), (70, _), (71, _), (72, _), (73, _), (76, _), (77, _), (78, _)]) ⟨rfl, rfl, rfl, rfl, rfl, rfl, rfl, rfl, rfl, rfl, rfl, rfl, rfl, rfl, rfl, rfl, rfl, rfl, rfl, trivial⟩ ?_
              refine GE_plain (.st 0 (.ld 1 [] (.st 2 (.st 3 (.st 4 (.st 5 .nil)))))) rfl ?_
              refine GT_st rfl rfl rfl rfl (V_move rfl rfl) ?_
              refine GT_call rfl rfl rfl rfl rfl rfl rfl rfl rn_13 (fun w hw => C_UnpackN (b := (pkD ((l.getD i default).name, (l.getD i default).data)).set kk (chg ((pkD ((l.getD i default).name, (l.getD i default).data)).getD kk default) by')) List.length_set (hO4.rdH eU_len hw) (own_cap hO3)) (fun _ _ => GR_nil) (fun v hv => ?_)
              have ev := un1_set ho hkk (chg_ne (x := (pkD ((l.getD i default).name, (l.getD i default).data)).getD kk default) hby); rw [ev] at hv ⊢
              refine GT_st rfl rfl rfl rfl (V_move rfl rfl) ?_
              refine GT_st rfl rfl rfl rfl (V_extract rfl rfl rfl) ?_
              refine GT_st rfl rfl rfl rfl (V_extract rfl rfl rfl) ?_
              refine GT_st rfl rfl rfl rfl (V_assign rfl rfl) ?_
              refine GT_nil ?_
              refine GE_seq ?_
              refine GE_slots (L' := [(0, _), (1, _), (2, _), (3, _), (4, _), (5, _), (13, _), (14, _), (15, _), (67, _), (68, _), (69, _), (70, _), (71, _), (72, _), (73, _), (76, _), (77, _), (78, _)]) ⟨rfl, rfl, rfl, rfl, rfl, rfl, rfl, rfl, rfl, rfl, rfl, rfl, rfl, rfl, rfl, rfl, rfl, rfl, rfl, trivial⟩ ?_
              refine GE_plain (.st 0 (.st 1 (.st 2 (.st 3 (.st 4 (.ld 5 [] (.st 6 (.st 7 (.st 8 (.st 9 .nil)))))))))) rfl ?_
              refine GT_st rfl rfl rfl rfl (V_move rfl rfl) ?_
              refine GT_st rfl rfl rfl rfl (V_move rfl rfl) ?_
              refine GT_st rfl rfl rfl rfl (V_len rfl Tryz.underlying33 rfl) ?_
              refine GT_st rfl rfl rfl rfl (V_sub rfl rfl rfl (wrap_i64 (by omega))) ?_
              refine GT_st rfl rfl rfl rfl (V_sliceToL (l := pkD ((l.getD i default).name, (l.getD i default).data)) (hi := (pkD ((l.getD i default).name, (l.getD i default).data)).length - 1) rfl rfl rfl Tryz.underlying33 (by rw [sz_5]; rfl) (by omega) (by omega) (own_cap hx)) ?_
              refine GT_call rfl rfl rfl rfl rfl rfl rfl rfl rn_13 (fun w hw => C_Unpack (b := (pkD ((l.getD i default).name, (l.getD i default).data)).take ((pkD ((l.getD i default).name, (l.getD i default).data)).length - 1)) ((hx.rdH eU_len hw).take _) (by have := own_cap hx; rw [List.length_take]; omega)) (fun _ _ => GR_nil) (fun v2 hv2 => ?_)
              have ev2 := un1_cut ho; rw [ev2] at hv2 ⊢
              refine GT_st rfl rfl rfl rfl (V_move rfl rfl) ?_
              refine GT_st rfl rfl rfl rfl (V_extract rfl rfl rfl) ?_
              refine GT_st rfl rfl rfl rfl (V_extract rfl rfl rfl) ?_
              refine GT_st rfl rfl rfl rfl (V_assign rfl rfl) ?_
              refine GT_nil ?_
              refine GE_seq ?_
              refine GE_slots (L' := [(0, _), (1, _), (2, _), (3, _), (4, _), (5, _), (13, _), (15, _), (17, _), (67, _), (68, _), (69, _), (70, _), (71, _), (72, _), (73, _), (76, _), (77, _), (78, _)]) ⟨rfl, rfl, rfl, rfl, rfl, rfl, rfl, rfl, rfl, rfl, rfl, rfl, rfl, rfl, rfl, rfl, rfl, rfl, rfl, trivial⟩ ?_
              refine GE_plain (.st 0 (.st 1 (.st 2 (.st 3 (.st 4 (.st 5 .nil)))))) rfl ?_
              refine GT_st rfl rfl rfl rfl (V_move rfl rfl) ?_
              refine GT_st rfl rfl rfl rfl (V_isF (V_neq rfl rfl rfl) (fun q => q rfl)) ?_
              refine GT_st rfl rfl rfl rfl (V_move rfl rfl) ?_
              refine GT_st_g rfl rfl rfl rfl rfl rfl rfl (V_move rfl rfl) ?_
              refine GT_st_g rfl rfl rfl rfl rfl rfl rfl (V_isF (V_neq rfl rfl rfl) (fun q => q rfl)) ?_
              refine GT_st rfl rfl rfl rfl (V_pick_f rfl rfl rfl) ?_
              refine GT_nil ?_
              refine GE_cond_f rfl ?_
              refine GE_skip ?_
              refine GE_inBlock ?_
              refine GE_slots (L' := [(0, _), (1, _), (2, _), (3, _), (4, _), (5, _), (13, _), (67, _), (68, _), (69, _), (70, _), (71, _), (72, _), (73, _), (76, _), (77, _), (78, _), (113, _), (114, _)]) ⟨rfl, rfl, rfl, rfl, rfl, rfl, rfl, rfl, rfl, rfl, rfl, rfl, rfl, rfl, rfl, rfl, rfl, rfl, rfl, trivial⟩ ?_
              refine GE_plain (.st 0 (.st 1 (.ld 2 [] .nil))) rfl ?_
              refine GT_st rfl rfl rfl rfl (V_move rfl rfl) ?_
              refine GT_st rfl rfl rfl rfl (V_add rfl rfl rfl (wrap_i64 (by omega))) ?_
              refine GT_ldv rfl rfl rfl rfl rfl (V_assign rfl rfl) (GR_nil) ?_
              refine GT_nil ?_
              exact GE_to (ih (i + 1) (by omega) (by omega)) ⟨rfl, rfl, rfl, rfl, rfl, rfl, rfl, trivial⟩ HS.nil
          · skip
            refine GE_exit rfl ?_
            refine GE_seq ?_
            refine GE_slots (L' := [(0, _), (1, _), (2, _), (3, _)]) ⟨rfl, rfl, rfl, rfl, trivial⟩ ?_
            refine GE_plain (.st 0 (.ld 1 [] (.st 2 (.st 3 (.st 4 (.ld 5 [] (.ld 6 [] (.st 7 .nil)))))))) rfl ?_
            refine GT_st rfl rfl rfl rfl (V_move rfl rfl) ?_
            refine GT_call rfl rfl rfl rfl rfl rfl rfl rfl rn_13 (fun w hw => C_Unpack (hb.sh hw) hc.1) (fun _ _ => GR_nil) (fun v hv => ?_)
            refine GT_st rfl rfl rfl rfl (V_move rfl rfl) ?_
            refine GT_st rfl rfl rfl rfl (V_extract rfl rfl rfl) ?_
            refine GT_st rfl rfl rfl rfl (V_extract rfl rfl rfl) ?_
            refine GT_alloc rfl rfl rfl rfl rfl zc_39 (fun _ => GR_nil) (fun b19 => ?_)
            refine GT_store (vs := [_, _]) (l' := [_, _]) rfl rfl rfl rfl rfl rfl rfl sz_39 rfl rfl (Nat.le_of_ble_eq_true rfl) rfl (GR_nil) ?_
            refine GT_st rfl rfl rfl rfl (V_assign rfl rfl) ?_
            refine GT_nil ?_
            refine GE_cut (ι := Unit) (fun _ => [(0, .slice A l.length c), (1, .slice A2 p.length c2), (3, .string (stz s))]) (fun _ => []) (fun _ => True) ?_ (fun hk => ?_)
            · intro _ _
              refine GE_seq ?_
              refine GE_plain (.st 0 (.st 1 (.ld 2 [] (.st 3 (.st 4 (.st 5 (.st 6 (.st 7 .nil)))))))) rfl ?_
              refine GT_st rfl rfl rfl rfl (V_move rfl rfl) ?_
              refine GT_st rfl rfl rfl rfl (V_move rfl rfl) ?_
              refine GT_call0 rfl rfl rfl rfl rfl rfl rfl rfl rn_7 (fun w hw => C_Text (E.sh hw) (h.sh hw) (hp.sh hw)) (GR_nil) ?_
              refine GT_st rfl rfl rfl rfl (V_move rfl rfl) ?_
              refine GT_st rfl rfl rfl rfl (V_extract rfl rfl rfl) ?_
              refine GT_st rfl rfl rfl rfl (V_extract rfl rfl rfl) ?_
              refine GT_st rfl rfl rfl rfl (V_assign rfl rfl) ?_
              refine GT_st rfl rfl rfl rfl (V_assign rfl rfl) ?_
              refine GT_nil ?_
              refine GE_cut (ι := Unit) (fun _ => [(0, .slice A l.length c), (3, .string (stz s))]) (fun _ => []) (fun _ => True) ?_ (fun hk => ?_)
              · intro _ _
                refine GE_seq ?_
                refine GE_plain (.st 0 (.st 1 (.ld 2 [] (.st 3 (.st 4 (.st 5 (.st 6 (.st 7 .nil)))))))) rfl ?_
                refine GT_st rfl rfl rfl rfl (V_move rfl rfl) ?_
                refine GT_st rfl rfl rfl rfl (V_move rfl rfl) ?_
                refine GT_call rfl rfl rfl rfl rfl rfl rfl rfl rn_9 (fun w hw => C_Parse (s := s) (E.sh hw) (h.sh hw) (by omega)) (fun _ _ => GR_nil) (fun v hv => ?_)
                refine GT_st rfl rfl rfl rfl (V_move rfl rfl) ?_
                refine GT_st rfl rfl rfl rfl (V_extract rfl rfl rfl) ?_
                refine GT_st rfl rfl rfl rfl (V_extract rfl rfl rfl) ?_
                refine GT_st rfl rfl rfl rfl (V_assign rfl rfl) ?_
                refine GT_st rfl rfl rfl rfl (V_assign rfl rfl) ?_
                refine GT_nil ?_
                refine GE_cut (ι := Unit) (fun _ => []) (fun _ => []) (fun _ => True) ?_ (fun hk => ?_)
                · intro _ _
                  refine GE_seq ?_
                  refine GE_plain (.ld 0 [] (.st 1 .nil)) rfl ?_
                  refine GT_call0 rfl rfl rfl rfl rfl rfl rfl rfl rn_6 (fun w hw => C_Works) (GR_nil) ?_
                  refine GT_st rfl rfl rfl rfl (V_assign rfl rfl) ?_
                  refine GT_nil ?_
                  refine GE_ret Tryz.func4 rfl (fun w hw => ⟨?_, hw.nil⟩)
                  rfl
                · skip
                  refine GE_seq ?_
                  refine GE_slots (L' := [(0, _), (3, _), (20, _), (26, _)]) ⟨rfl, rfl, rfl, rfl, trivial⟩ ?_
                  refine GE_plain (.st 0 (.st 1 .nil)) rfl ?_
                  refine GT_st rfl rfl rfl rfl (V_move rfl rfl) ?_
                  refine GT_st rfl rfl rfl rfl (V_eql rfl rfl rfl) ?_
                  refine GT_nil ?_
                  first | refine GE_condNot rfl (fun q8 => ?_) (fun q8 => ?_) | refine GE_cond rfl (fun q8 => ?_) (fun q8 => ?_) | refine GE_condNotB rfl (fun q8 => ?_) (fun q8 => ?_) | refine GE_condB rfl (fun q8 => ?_) (fun q8 => ?_)
                  · have eb := pa1_back (by omega : (pa1 l s).2 = 0); have eT : txt l (pa1 l s).1 = s := (if_pos eb.1).trans eb.2
                    refine GE_seq ?_
                    refine GE_plain (.st 0 (.st 1 (.ld 2 [] (.st 3 (.st 4 (.st 5 (.st 6 (.st 7 .nil)))))))) rfl ?_
                    refine GT_st rfl rfl rfl rfl (V_move rfl rfl) ?_
                    refine GT_st rfl rfl rfl rfl (V_move rfl rfl) ?_
                    refine GT_call0 rfl rfl rfl rfl rfl rfl rfl rfl rn_7 (fun w hw => C_Text (E.sh hw) (h.sh hw) (hv.rdH ePrt_len hw)) (GR_nil) ?_
                    refine GT_st rfl rfl rfl rfl (V_move rfl rfl) ?_
                    refine GT_st rfl rfl rfl rfl (V_extract rfl rfl rfl) ?_
                    refine GT_st rfl rfl rfl rfl (V_extract rfl rfl rfl) ?_
                    refine GT_st rfl rfl rfl rfl (V_assign rfl rfl) ?_
                    refine GT_st rfl rfl rfl rfl (V_assign rfl rfl) ?_
                    refine GT_nil ?_
                    refine GE_seq ?_
                    refine GE_slots (L' := [(3, _), (27, _), (28, _)]) ⟨rfl, rfl, rfl, trivial⟩ ?_
                    refine GE_plain (.st 0 (.st 1 (.st 2 (.st 3 (.st 4 (.st 5 (.st 6 .nil))))))) rfl ?_
                    refine GT_st rfl rfl rfl rfl (V_move rfl rfl) ?_
                    refine GT_st rfl rfl rfl rfl (V_isF (V_neq rfl rfl rfl) (fun q => q eb.1)) ?_
                    refine GT_st rfl rfl rfl rfl (V_move rfl rfl) ?_
                    refine GT_st_g rfl rfl rfl rfl rfl rfl rfl (V_move rfl rfl) ?_
                    refine GT_st_g rfl rfl rfl rfl rfl rfl rfl (V_move rfl rfl) ?_
                    refine GT_st_g rfl rfl rfl rfl rfl rfl rfl (V_isF (V_neqStr rfl rfl rfl) (fun q => q (by rw [eT]))) ?_
                    refine GT_st rfl rfl rfl rfl (V_pick_f rfl rfl rfl) ?_
                    refine GT_nil ?_
                    refine GE_cond_f rfl ?_
                    refine GE_skip ?_
                    exact GE_to (hk () trivial) trivial HS.nil
                  · skip
                    refine GE_skip ?_
                    exact GE_to (hk () trivial) trivial HS.nil
              · skip
                refine GE_seq ?_
                refine GE_slots (L' := [(0, _), (1, _), (3, _), (20, _), (23, _)]) ⟨rfl, rfl, rfl, rfl, rfl, trivial⟩ ?_
                refine GE_plain (.st 0 (.st 1 .nil)) rfl ?_
                refine GT_st rfl rfl rfl rfl (V_move rfl rfl) ?_
                refine GT_st rfl rfl rfl rfl (V_eql rfl rfl rfl) ?_
                refine GT_nil ?_
                first | refine GE_condNot rfl (fun q7 => ?_) (fun q7 => ?_) | refine GE_cond rfl (fun q7 => ?_) (fun q7 => ?_) | refine GE_condNotB rfl (fun q7 => ?_) (fun q7 => ?_) | refine GE_condB rfl (fun q7 => ?_) (fun q7 => ?_)
                · have q7 : gErr l p = 0 := (by omega); have eT : txt l p = tx l p := if_pos q7; have etl := tx_len q7; rw [eT]
                  refine GE_seq ?_
                  refine GE_plain (.st 0 (.st 1 (.ld 2 [] (.st 3 (.st 4 (.st 5 (.st 6 (.st 7 .nil)))))))) rfl ?_
                  refine GT_st rfl rfl rfl rfl (V_move rfl rfl) ?_
                  refine GT_st rfl rfl rfl rfl (V_move rfl rfl) ?_
                  refine GT_call rfl rfl rfl rfl rfl rfl rfl rfl rn_9 (fun w hw => C_Parse (s := tx l p) (E.sh hw) (h.sh hw) (by omega)) (fun _ _ => GR_nil) (fun u hu => ?_)
                  rw [pa1_tx q7] at hu ⊢
                  refine GT_st rfl rfl rfl rfl (V_move rfl rfl) ?_
                  refine GT_st rfl rfl rfl rfl (V_extract rfl rfl rfl) ?_
                  refine GT_st rfl rfl rfl rfl (V_extract rfl rfl rfl) ?_
                  refine GT_st rfl rfl rfl rfl (V_assign rfl rfl) ?_
                  refine GT_st rfl rfl rfl rfl (V_assign rfl rfl) ?_
                  refine GT_nil ?_
                  refine GE_seq ?_
                  refine GE_slots (L' := [(0, _), (1, _), (3, _), (24, _), (25, _)]) ⟨rfl, rfl, rfl, rfl, rfl, trivial⟩ ?_
                  refine GE_plain (.st 0 (.st 1 (.st 2 (.st 3 (.st 4 (.ld 5 [] (.st 6 (.st 7 .nil)))))))) rfl ?_
                  refine GT_st rfl rfl rfl rfl (V_move rfl rfl) ?_
                  refine GT_st rfl rfl rfl rfl (V_isF (V_neq rfl rfl rfl) (fun q => q rfl)) ?_
                  refine GT_st rfl rfl rfl rfl (V_move rfl rfl) ?_
                  refine GT_st_g rfl rfl rfl rfl rfl rfl rfl (V_move rfl rfl) ?_
                  refine GT_st_g rfl rfl rfl rfl rfl rfl rfl (V_move rfl rfl) ?_
                  refine GT_call0_g rfl rfl rfl rfl rfl rfl rfl rfl rfl rfl rfl rn_11 (fun w hw => C_partsT (a := p) (b := p) rfl (by have := (prog_each q7).2.1; omega) (hu.rdH ePrt_len hw) (hp.sh hw)) (GR_nil) ?_
                  first | refine GT_st_g rfl rfl rfl rfl rfl rfl rfl (V_not rfl rfl) ?_ | refine GT_st_g rfl rfl rfl rfl rfl rfl rfl (V_notB rfl rfl) ?_
                  refine GT_st rfl rfl rfl rfl (V_pick_f rfl rfl rfl) ?_
                  refine GT_nil ?_
                  refine GE_cond_f rfl ?_
                  refine GE_skip ?_
                  exact GE_to (hk () trivial) ⟨rfl, rfl, trivial⟩ HS.nil
                · skip
                  refine GE_skip ?_
                  exact GE_to (hk () trivial) ⟨rfl, rfl, trivial⟩ HS.nil
            · skip
              refine GE_seq ?_
              refine GE_slots (L' := [(0, _), (1, _), (2, _), (3, _), (19, _), (20, _)]) ⟨rfl, rfl, rfl, rfl, rfl, rfl, trivial⟩ ?_
              refine GE_plain (.st 0 (.st 1 .nil)) rfl ?_
              refine GT_st rfl rfl rfl rfl (V_move rfl rfl) ?_
              refine GT_st rfl rfl rfl rfl (V_eql rfl rfl rfl) ?_
              refine GT_nil ?_
              first | refine GE_condNot rfl (fun q6 => ?_) (fun q6 => ?_) | refine GE_cond rfl (fun q6 => ?_) (fun q6 => ?_) | refine GE_condNotB rfl (fun q6 => ?_) (fun q6 => ?_) | refine GE_condB rfl (fun q6 => ?_) (fun q6 => ?_)
              · have eb := un1_zero (by omega : (un1 b).2 = 0)
                refine GE_seq ?_
                refine GE_plain (.st 0 (.ld 1 [] (.st 2 (.st 3 (.st 4 (.st 5 (.st 6 .nil))))))) rfl ?_
                refine GT_st rfl rfl rfl rfl (V_loadN (vs := [_, _]) rfl rfl ag_39 sz_39 rfl (CellsAt.item rfl)) ?_
                refine GT_call rfl rfl rfl rfl rfl rfl rfl rfl rn_12 (fun w hw => C_Pack (t := ⟨(un1 b).1.1, v.1, v.2.1, (un1 b).1.2⟩) (hv.rdH eSam_len hw) (by have h9 := hub.1; show (un1 b).1.1.size ≤ _; unfold maxLen; omega)) (fun _ _ => GR_nil) (fun x hx => ?_)
                have eP : pkL ((un1 b).1.1, (un1 b).1.2) = b := ((if_pos eb.1 : pkL ((un1 b).1.1, (un1 b).1.2) = pkD ((un1 b).1.1, (un1 b).1.2))).trans eb.2; dsimp only at hx ⊢; rw [eP] at hx ⊢
                refine GT_st rfl rfl rfl rfl (V_move rfl rfl) ?_
                refine GT_st rfl rfl rfl rfl (V_extract rfl rfl rfl) ?_
                refine GT_st rfl rfl rfl rfl (V_extract rfl rfl rfl) ?_
                refine GT_st rfl rfl rfl rfl (V_assign rfl rfl) ?_
                refine GT_st rfl rfl rfl rfl (V_assign rfl rfl) ?_
                refine GT_nil ?_
                refine GE_seq ?_
                refine GE_slots (L' := [(0, _), (1, _), (2, _), (3, _), (21, _), (22, _)]) ⟨rfl, rfl, rfl, rfl, rfl, rfl, trivial⟩ ?_
                refine GE_plain (.st 0 (.st 1 (.st 2 (.st 3 (.ld 4 [] (.st 5 (.ld 6 [] (.st 7 (.st 8 .nil))))))))) rfl ?_
                refine GT_st rfl rfl rfl rfl (V_move rfl rfl) ?_
                refine GT_st rfl rfl rfl rfl (V_isF (V_neq rfl rfl rfl) (fun q => q eb.1)) ?_
                refine GT_st rfl rfl rfl rfl (V_move rfl rfl) ?_
                refine GT_st_g rfl rfl rfl rfl rfl rfl rfl (V_move rfl rfl) ?_
                refine GT_ldv_g rfl rfl rfl rfl rfl rfl rfl rfl (V_bytesStr rfl rfl Tryz.underlying33 Tryz.underlying5 Tryz.underlying9 (fun w m => hx.rdH eU_len m)) (GR_nil) ?_
                refine GT_st_g rfl rfl rfl rfl rfl rfl rfl (V_move rfl rfl) ?_
                refine GT_ldv_g rfl rfl rfl rfl rfl rfl rfl rfl (V_bytesStr rfl rfl Tryz.underlying33 Tryz.underlying5 Tryz.underlying9 (fun w m => hb.sh m)) (GR_nil) ?_
                refine GT_st_g rfl rfl rfl rfl rfl rfl rfl (V_isF (V_neqStr rfl rfl rfl) (fun q => q rfl)) ?_
                refine GT_st rfl rfl rfl rfl (V_pick_f rfl rfl rfl) ?_
                refine GT_nil ?_
                refine GE_cond_f rfl ?_
                refine GE_skip ?_
                exact GE_to (hk () trivial) ⟨rfl, rfl, rfl, trivial⟩ HS.nil
              · skip
                refine GE_skip ?_
                exact GE_to (hk () trivial) ⟨rfl, rfl, rfl, trivial⟩ HS.nil
        · exact Nat.zero_le _
end
end Go.Proofs.YtdcjgjopmicidaaGreatDoor
