/- The file of a take, and the take of a file, in plain Lean. -/
import Derived.Test.YtdcjgjopmicidaaDoorTaS
import Derived.Test.YtdcjgjopmicidaaDoorSxL
namespace Go.Proofs.YtdcjgjopmicidaaDoor
open Go.Sx

/-! ### numbers of two bytes -/
def by8 (n : Int) : UInt8 := UInt8.ofNat (n % 256).toNat
theorem by8_nat (n : Int) : (((by8 n).toNat : Nat) : Int) = n % 256 := by
  unfold by8
  rw [UInt8.toNat_ofNat']
  omega
def two (n : Int) : List UInt8 := [by8 (n / 256), by8 n]
def val2 (x y : UInt8) : Int := 256 * (x.toNat : Int) + y.toNat
theorem val2_two {n : Int} (h : 0 ≤ n ∧ n ≤ 65535) : val2 (by8 (n / 256)) (by8 n) = n := by
  unfold val2; rw [by8_nat, by8_nat]; omega
theorem val2_bd (x y : UInt8) : 0 ≤ val2 x y ∧ val2 x y ≤ 65535 := by
  have h1 := x.toNat_lt; have h2 := y.toNat_lt
  unfold val2; omega
theorem two_len (n : Int) : (two n).length = 2 := rfl

/-! ### the file -/
abbrev TD := ByteArray × List Sam
def sby (s : Sam) : List UInt8 := two (s.l + 32768) ++ two (s.r + 32768)
def add1 (c : Int × Int) (x : UInt8) : Int × Int := ((c.1 + x.toNat) % 65521, (c.2 + (c.1 + x.toNat) % 65521) % 65521)
def adl (c : Int × Int) (l : List UInt8) : Int × Int := l.foldl add1 c
theorem adl_app (c : Int × Int) (l m : List UInt8) : adl c (l ++ m) = adl (adl c l) m := List.foldl_append
def cs0 : Int × Int := (1, 0)
def csIn (c : Int × Int) : Prop := (0 ≤ c.1 ∧ c.1 < 65521) ∧ (0 ≤ c.2 ∧ c.2 < 65521)
theorem csIn0 : csIn cs0 := by unfold csIn cs0; omega
theorem csIn_add {c : Int × Int} {x : UInt8} : csIn (add1 c x) := by unfold csIn add1; dsimp only; omega
theorem csIn_adl {l : List UInt8} : ∀ {c : Int × Int}, csIn c → csIn (adl c l) := by
  induction l with
  | nil => intro c h; exact h
  | cons x l ih => intro c _; exact ih csIn_add
def hd3 (x : TD) : List UInt8 := [84, 75, by8 x.1.size]
def bod (x : TD) : List UInt8 := hd3 x ++ byz x.1 ++ two x.2.length ++ x.2.flatMap sby
def chk (l : List UInt8) : List UInt8 := two (adl cs0 l).2 ++ two (adl cs0 l).1
def pkD (x : TD) : List UInt8 := bod x ++ chk (bod x)
def tkE (x : TD) : Int := tErr ⟨x.1, none, 0, x.2⟩
theorem tkE_eq (t : Tk) : tErr t = tkE (t.name, t.data) := rfl
structure TdOk (x : TD) : Prop where
  most : x.2.length ≤ 4096
  one : 0 < x.2.length
  nm : x.1.size ≤ 20
  each : ∀ s ∈ x.2, s.ok = true
theorem tkE_ok {x : TD} (h : tkE x = 0) : TdOk x := by
  obtain ⟨h1, h2, h3, h4⟩ := tErr_zero.1 h
  refine ⟨h1, h3, ?_, List.all_eq_true.1 h4⟩
  unfold isNm at h2
  rw [Bool.and_eq_true, Bool.and_eq_true, decide_eq_true_iff, decide_eq_true_iff] at h2
  exact h2.1.2
theorem pkD_split (x : TD) : pkD x = hd3 x ++ (byz x.1 ++ (two x.2.length ++ (x.2.flatMap sby ++ chk (bod x)))) := by
  simp only [pkD, bod, List.append_assoc]
theorem chk_len (l : List UInt8) : (chk l).length = 4 := rfl

/-! ### as the program takes it apart -/
def tk1 (r : List UInt8) (n : Nat) : List UInt8 × List UInt8 := if r.length < n then (List.replicate n 0, []) else (r.take n, r.drop n)
def tw (r : List UInt8) : Int := val2 ((tk1 r 2).1.getD 0 default) ((tk1 r 2).1.getD 1 default)
def tr (r : List UInt8) : List UInt8 := (tk1 r 2).2
def dat : Nat → List UInt8 → List Sam
  | 0, _ => []
  | n + 1, r => if r = [] then [] else ⟨tw r - 32768, tw (tr r) - 32768⟩ :: dat n (tr (tr r))
def par1 (b : List UInt8) : TD :=
  (stz (tk1 (tk1 b 3).2 ((tk1 b 3).1.getD 2 default).toNat).1,
   dat (tw (tk1 (tk1 b 3).2 ((tk1 b 3).1.getD 2 default).toNat).2).toNat (tr (tk1 (tk1 b 3).2 ((tk1 b 3).1.getD 2 default).toNat).2))
theorem tk1_len (r : List UInt8) (n : Nat) : (tk1 r n).1.length = n := by
  unfold tk1; split
  · exact List.length_replicate
  · rw [List.length_take]; omega
theorem tk1_le (r : List UInt8) (n : Nat) : (tk1 r n).2.length ≤ r.length := by
  unfold tk1; split
  · exact Nat.zero_le _
  · rw [List.length_drop]; omega
theorem tw_bd (r : List UInt8) : 0 ≤ tw r ∧ tw r ≤ 65535 := val2_bd _ _
theorem tk1_app (a r : List UInt8) {n : Nat} (h : a.length = n) : tk1 (a ++ r) n = (a, r) := by
  unfold tk1
  subst h
  rw [if_neg (by rw [List.length_append]; omega), List.take_left, List.drop_left]
theorem tw_two {n : Int} (h : 0 ≤ n ∧ n ≤ 65535) (r : List UInt8) : tw (two n ++ r) = n := by
  unfold tw; rw [tk1_app _ _ (two_len n)]; exact val2_two h
theorem tr_two (n : Int) (r : List UInt8) : tr (two n ++ r) = r := by
  unfold tr; rw [tk1_app _ _ (two_len n)]
theorem ok_bd {s : Sam} (h : s.ok = true) : (0 ≤ s.l + 32768 ∧ s.l + 32768 ≤ 65535) ∧ (0 ≤ s.r + 32768 ∧ s.r + 32768 ≤ 65535) := by
  have := Sam.ok_iff.1 h; omega
theorem dat_ok {T : List UInt8} (hT : T ≠ []) : ∀ (d : List Sam), (∀ s ∈ d, s.ok = true) → dat d.length (d.flatMap sby ++ T) = d
  | [], _ => rfl
  | s :: d, h => by
    have hb := ok_bd (h s List.mem_cons_self)
    have e : (s :: d).flatMap sby ++ T = two (s.l + 32768) ++ (two (s.r + 32768) ++ (d.flatMap sby ++ T)) := by
      simp only [List.flatMap_cons, sby, List.append_assoc]
    rw [e, List.length_cons, dat, if_neg (by simp [two]), tw_two hb.1, tr_two, tw_two hb.2, tr_two, dat_ok hT d (fun x hx => h x (List.mem_cons_of_mem _ hx))]
    congr 1
    show Sam.mk (s.l + 32768 - 32768) (s.r + 32768 - 32768) = s
    rw [Int.add_sub_cancel, Int.add_sub_cancel]
theorem par1_pk {x : TD} (h : TdOk x) : par1 (pkD x) = x := by
  have hn := h.nm
  have e1 : tk1 (pkD x) 3 = (hd3 x, byz x.1 ++ (two x.2.length ++ (x.2.flatMap sby ++ chk (bod x)))) := by
    rw [pkD_split]; exact tk1_app _ _ rfl
  have e2 : ((hd3 x).getD 2 default).toNat = (byz x.1).length := by
    have : (((by8 x.1.size).toNat : Nat) : Int) = (x.1.size : Int) % 256 := by8_nat _
    show (by8 x.1.size).toNat = _
    rw [byz_len]; omega
  unfold par1
  rw [e1]
  dsimp only
  rw [e2, tk1_app _ _ rfl]
  dsimp only
  have hm := h.most
  rw [tw_two (by omega), tr_two, Int.toNat_natCast, dat_ok (by intro q; have := chk_len (bod x); rw [q] at this; cases this) _ h.each, stz_byz]

/-! ### as the document takes it apart -/
def get2 (b : List UInt8) (i : Nat) : Int := if i + 1 < b.length then val2 (b.getD i default) (b.getD (i + 1) default) else 0
def par2 (b : List UInt8) : TD :=
  (stz ((b.drop 3).take (b.getD 2 default).toNat),
   (List.range (min (get2 b (3 + (b.getD 2 default).toNat)).toNat 5000)).map fun i => ⟨get2 b (3 + (b.getD 2 default).toNat + 2 + 4 * i) - 32768, get2 b (3 + (b.getD 2 default).toNat + 4 + 4 * i) - 32768⟩)
theorem get2_bd (b : List UInt8) (i : Nat) : 0 ≤ get2 b i ∧ get2 b i ≤ 65535 := by
  unfold get2; split
  · exact val2_bd _ _
  · omega
theorem getD_app {p r : List UInt8} {k n : Nat} (h : p.length = n) : (p ++ r).getD (n + k) default = r.getD k default := by
  subst h
  simp [List.getD, List.getElem?_append_right]
theorem get2_app {p r : List UInt8} {k n : Nat} (h : p.length = n) : get2 (p ++ r) (n + k) = get2 r k := by
  unfold get2
  rw [Nat.add_assoc, getD_app h, getD_app h, List.length_append, h]
  by_cases q : k + 1 < r.length
  · rw [if_pos q, if_pos (by omega)]
  · rw [if_neg q, if_neg (by omega)]
theorem get2_two {n : Int} (h : 0 ≤ n ∧ n ≤ 65535) (r : List UInt8) : get2 (two n ++ r) 0 = n := by
  unfold get2
  rw [if_pos (by rw [List.length_append, two_len]; omega)]
  exact val2_two h
theorem get2_flat {T : List UInt8} : ∀ (d : List Sam) (i : Nat), (∀ s ∈ d, s.ok = true) → i < d.length → get2 (d.flatMap sby ++ T) (4 * i) = (d.getD i default).l + 32768 ∧ get2 (d.flatMap sby ++ T) (2 + 4 * i) = (d.getD i default).r + 32768
  | [], i, _, h => by cases h
  | s :: d, 0, h, _ => by
    have hb := ok_bd (h s List.mem_cons_self)
    have e : (s :: d).flatMap sby ++ T = two (s.l + 32768) ++ (two (s.r + 32768) ++ (d.flatMap sby ++ T)) := by
      simp only [List.flatMap_cons, sby, List.append_assoc]
    rw [e]
    exact ⟨get2_two hb.1 _, (get2_app (k := 0) (two_len _)).trans (get2_two hb.2 _)⟩
  | s :: d, i + 1, h, hi => by
    have e : (s :: d).flatMap sby ++ T = sby s ++ (d.flatMap sby ++ T) := by
      simp only [List.flatMap_cons, List.append_assoc]
    have ih := get2_flat (T := T) d i (fun x hx => h x (List.mem_cons_of_mem _ hx)) (by simpa using hi)
    have e1 : 4 * (i + 1) = 4 + 4 * i := by omega
    have e2 : 2 + 4 * (i + 1) = 4 + (2 + 4 * i) := by omega
    rw [e, e2, e1, get2_app (p := sby s) (n := 4) rfl, get2_app (p := sby s) (n := 4) rfl]
    exact ih
theorem par2_pk {x : TD} (h : TdOk x) : par2 (pkD x) = x ∧ 3 + ((pkD x).getD 2 default).toNat ≤ (pkD x).length := by
  have hn := h.nm
  have hm := h.most
  have e2 : ((pkD x).getD 2 default).toNat = (byz x.1).length := by
    have : (((by8 x.1.size).toNat : Nat) : Int) = (x.1.size : Int) % 256 := by8_nat _
    have e : (pkD x).getD 2 default = by8 x.1.size := by rw [pkD_split]; rfl
    rw [e, byz_len]; omega
  have hl : (hd3 x ++ byz x.1).length = 3 + (byz x.1).length := by rw [List.length_append]; rfl
  have e3 : pkD x = (hd3 x ++ byz x.1) ++ (two x.2.length ++ (x.2.flatMap sby ++ chk (bod x))) := by rw [pkD_split, List.append_assoc]
  refine ⟨?_, by rw [e2, e3, List.length_append, hl]; omega⟩
  have g0 : get2 (pkD x) (3 + (byz x.1).length) = x.2.length := by
    rw [e3]
    exact (get2_app (k := 0) hl).trans (get2_two (by omega) _)
  unfold par2
  rw [e2, g0]
  refine Prod.ext ?_ ?_
  · dsimp only
    have : ((pkD x).drop 3).take (byz x.1).length = byz x.1 := by
      rw [pkD_split, show (hd3 x ++ (byz x.1 ++ (two x.2.length ++ (x.2.flatMap sby ++ chk (bod x))))).drop 3 = byz x.1 ++ (two x.2.length ++ (x.2.flatMap sby ++ chk (bod x))) from rfl, List.take_left]
    rw [this, stz_byz]
  · dsimp only
    rw [Int.toNat_natCast, Nat.min_eq_left (by omega)]
    apply List.ext_getElem (by simp)
    intro i h1 h2
    rw [List.getElem_map, List.getElem_range]
    have hi : i < x.2.length := h2
    have hf := get2_flat (T := chk (bod x)) x.2 i h.each hi
    have hp : (hd3 x ++ byz x.1 ++ two x.2.length).length = 3 + (byz x.1).length + 2 := by rw [List.length_append, hl]; rfl
    have e4 : pkD x = (hd3 x ++ byz x.1 ++ two x.2.length) ++ (x.2.flatMap sby ++ chk (bod x)) := by rw [e3]; simp only [List.append_assoc]
    have hg : x.2.getD i default = x.2[i] := by simp [List.getD, hi]
    rw [hg] at hf
    rw [show 3 + (byz x.1).length + 4 + 4 * i = 3 + (byz x.1).length + 2 + (2 + 4 * i) by omega, e4, get2_app hp, get2_app hp, hf.1, hf.2]
    show Sam.mk (x.2[i].l + 32768 - 32768) (x.2[i].r + 32768 - 32768) = x.2[i]
    rw [Int.add_sub_cancel, Int.add_sub_cancel]

/-! ### only what is packed so is a file -/
def td0 : TD := (stz [], [])
def unp (x : TD) (b : List UInt8) : TD × Int := if tkE x = 0 ∧ pkD x = b then (x, 0) else (td0, 8)
def un1 (b : List UInt8) : TD × Int := if 65536 < b.length then (td0, 7) else unp (par1 b) b
def un2 (b : List UInt8) : TD × Int := if 65536 < b.length then (td0, 7) else if b.length < 3 ∨ b.length < 3 + (b.getD 2 default).toNat then (td0, 8) else unp (par2 b) b
theorem un_eq (b : List UInt8) : un1 b = un2 b := by
  unfold un1 un2
  split
  · rfl
  · by_cases h1 : tkE (par1 b) = 0 ∧ pkD (par1 b) = b
    · have ho := tkE_ok h1.1
      obtain ⟨e, hl⟩ := par2_pk ho
      rw [h1.2] at e hl
      rw [if_neg (by omega), e]
    · by_cases h2 : tkE (par2 b) = 0 ∧ pkD (par2 b) = b
      · have ho := tkE_ok h2.1
        have e := par1_pk ho
        rw [h2.2] at e
        rw [e] at h1
        exact absurd h2 h1
      · unfold unp
        rw [if_neg h1, if_neg h2]
        split <;> rfl
end Go.Proofs.YtdcjgjopmicidaaDoor
