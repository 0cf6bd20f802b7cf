/- Texts of this proof, one behind the other: TdD, TdE, TbB, TdF, TdG, Ug1. -/
import Derived.Test.YtpbflnfcgcldkaaGreatDoorMt20
import Derived.Lib.SplitLaws
import Derived.Lib.AtoiTie
import Derived.Test.YtpbflnfcgcldkaaGreatDoorMt19
import Derived.Test.YtpbflnfcgcldkaaGreatDoorMt14
import Derived.Test.YtpbflnfcgcldkaaGreatDoorMt15
/- The text of a programme, and the programme of a text, in plain Lean. -/
namespace Go.Proofs.YtpbflnfcgcldkaaGreatDoor.Take
open Go.Sx
/-! ### pieces between separators -/
def pcs (c : UInt8) : List UInt8 → List (List UInt8)
  | [] => [[]]
  | x :: r => if x = c then [] :: pcs c r else (x :: (pcs c r).headD []) :: (pcs c r).tail
theorem pcs_ne (c : UInt8) (s : List UInt8) : pcs c s ≠ [] := by
  cases s with
  | nil => simp [pcs]
  | cons x r => rw [pcs]; split <;> simp
theorem pcs_app {c : UInt8} {r : List UInt8} : ∀ {a : List UInt8}, c ∉ a → pcs c (a ++ c :: r) = a :: pcs c r
  | [], _ => by rw [List.nil_append, pcs, if_pos rfl]
  | x :: a, h => by
    have h1 : x ≠ c := fun e => h (e ▸ List.mem_cons_self)
    have h2 : c ∉ a := fun m => h (List.mem_cons_of_mem _ m)
    rw [List.cons_append, pcs, if_neg h1, pcs_app h2]; rfl
theorem pcs_none {c : UInt8} : ∀ {a : List UInt8}, c ∉ a → pcs c a = [a]
  | [], _ => rfl
  | x :: a, h => by
    have h1 : x ≠ c := fun e => h (e ▸ List.mem_cons_self)
    have h2 : c ∉ a := fun m => h (List.mem_cons_of_mem _ m)
    rw [pcs, if_neg h1, pcs_none h2]; rfl
theorem index_at {c : UInt8} {a r : List UInt8} (h : c ∉ a) : Go.Lib.index (a ++ c :: r) [c] = a.length := by
  refine Go.Lib.index_first (by rw [List.length_append]; omega) ?_ fun j hj => ?_
  · simp [Go.Lib.occAt]
  · unfold Go.Lib.occAt
    rw [List.drop_append_of_le_length (Nat.le_of_lt hj), List.drop_eq_getElem_cons hj, List.cons_append]
    have : ¬ c = a[j] := fun e => h (e ▸ List.getElem_mem hj)
    simp [List.isPrefixOf, this]
theorem splitK_pcs (c : UInt8) : ∀ (n : Nat) (s : List UInt8), s.length ≤ n → Go.Lib.splitK [c] 0 (s.count c) s = pcs c s
  | n, s, hn => by
    by_cases h : c ∈ s
    · obtain ⟨a, r, e, ha⟩ := List.eq_append_cons_of_mem h
      subst e
      have hc : (a ++ c :: r).count c = r.count c + 1 := by
        rw [List.count_append, List.count_cons_self, List.count_eq_zero.2 ha]; omega
      rw [List.length_append, List.length_cons] at hn
      rw [hc, Go.Lib.splitK, index_at ha, if_neg (by rw [beq_iff_eq]; omega), pcs_app ha]
      have e1 : ((a.length : Int).toNat + 0) = a.length := by omega
      have e2 : ((a.length : Int).toNat + [c].length) = a.length + 1 := by simp
      rw [e1, e2, List.take_left, ← List.drop_drop, List.drop_left]
      congr 1
      show Go.Lib.splitK [c] 0 (r.count c) r = _
      match n, hn with
      | n + 1, hn => exact splitK_pcs c n r (by omega)
      | 0, hn => omega
    · rw [List.count_eq_zero.2 h, pcs_none h]; rfl
theorem splitB_pcs {s : ByteArray} {c : UInt8} : Go.Lib.splitB ⟨#[c]⟩ 0 (Go.Lib.countB s ⟨#[c]⟩) s = (pcs c (byz s)).map stz := by
  have h := Go.Lib.splitB_data ⟨#[c]⟩ 0 (Go.Lib.countB s ⟨#[c]⟩) s
  have e : Go.Lib.countB s ⟨#[c]⟩ = (byz s).count c := Go.Lib.count_one c _
  rw [e] at h ⊢
  have h2 : Go.Lib.splitK [c] 0 ((byz s).count c) (byz s) = pcs c (byz s) := splitK_pcs c _ _ (Nat.le_refl _)
  have h3 : (Go.Lib.splitB ⟨#[c]⟩ 0 ((byz s).count c) s).map byz = pcs c (byz s) := h.trans h2
  rw [← h3, List.map_map]
  have : stz ∘ byz = id := funext stz_byz
  rw [this, List.map_id]
/-! ### numerals -/
theorem dec_digit (u : Nat) : ∀ b ∈ Go.Lib.decDigits u, 48 ≤ b.toNat ∧ b.toNat ≤ 57 := by
  induction u using Nat.strongRecOn with
  | _ u ih =>
    rw [Go.Lib.decDigits]
    have hd : ∀ d, d < 10 → 48 ≤ (UInt8.ofNat (48 + d)).toNat ∧ (UInt8.ofNat (48 + d)).toNat ≤ 57 := fun d hd => by
      rw [UInt8.toNat_ofNat']; omega
    split
    · rename_i h
      intro b hb; rw [List.mem_singleton] at hb; subst hb; exact hd u h
    · rename_i h
      intro b hb
      rcases List.mem_append.1 hb with hb | hb
      · exact ih (u / 10) (by omega) b hb
      · rw [List.mem_singleton] at hb; subst hb; exact hd _ (by omega)
theorem itoa_byte (n : Int) : ∀ b ∈ Go.Lib.itoa n, b = 45 ∨ (48 ≤ b.toNat ∧ b.toNat ≤ 57) := by
  intro b hb
  unfold Go.Lib.itoa at hb
  split at hb
  · rcases List.mem_cons.1 hb with h | h
    · exact .inl h
    · exact .inr (dec_digit _ _ h)
  · exact .inr (dec_digit _ _ hb)
theorem itoa_not {n : Int} {c : UInt8} (hc : c = 10 ∨ c = 32) : c ∉ Go.Lib.itoa n := by
  intro h
  rcases itoa_byte n c h with h | h <;> rcases hc with rfl | rfl
  · cases h
  · cases h
  · have := h.1; revert this; decide
  · have := h.1; revert this; decide
theorem nDig_le : ∀ (k u : Nat), 1 ≤ k → u < 10 ^ k → Go.Lib.nDigits u ≤ k
  | k + 1, u, _, h => by
    by_cases hu : u < 10
    · rw [Go.Lib.nDigits_small hu]; omega
    · have hk : k ≠ 0 := by rintro rfl; exact hu (by simpa using h)
      rw [Go.Lib.nDigits_big hu]
      have := nDig_le k (u / 10) (by omega) (by rw [Nat.pow_succ] at h; omega)
      omega
theorem decFrom_app (b : UInt8) : ∀ (l : List UInt8) (acc : Nat), Go.Lib.decFrom acc (l ++ [b]) = (Go.Lib.decFrom acc l).bind fun n => (Go.Lib.digitVal b).map fun d => n * 10 + d
  | [], acc => by
    rw [List.nil_append, Go.Lib.decFrom, Go.Lib.decFrom, Option.bind_some]
    cases Go.Lib.digitVal b <;> rfl
  | a :: l, acc => by
    rw [List.cons_append, Go.Lib.decFrom, Go.Lib.decFrom]
    cases Go.Lib.digitVal a with
    | none => rfl
    | some d => exact decFrom_app b l _
theorem digitVal_of {d : Nat} (h : d < 10) : Go.Lib.digitVal (UInt8.ofNat (48 + d)) = some d := by
  unfold Go.Lib.digitVal
  have e : (UInt8.ofNat (48 + d)).toNat = 48 + d := by rw [UInt8.toNat_ofNat']; omega
  rw [e, if_pos (by omega)]; congr 1; omega
theorem decFrom_dec (u : Nat) : Go.Lib.decFrom 0 (Go.Lib.decDigits u) = some u := by
  induction u using Nat.strongRecOn with
  | _ u ih =>
    rw [Go.Lib.decDigits]
    split
    · rename_i h
      rw [Go.Lib.decFrom, digitVal_of h]
      show Go.Lib.decFrom (0 * 10 + u) [] = _
      rw [Go.Lib.decFrom]; congr 1; omega
    · rename_i h
      rw [decFrom_app, ih (u / 10) (by omega), digitVal_of (by omega)]
      show some (u / 10 * 10 + u % 10) = some u
      congr 1; omega
theorem dec_ne (u : Nat) : Go.Lib.decDigits u ≠ [] := by
  intro h
  have h1 := Go.Lib.decDigits_length u
  have h2 := Go.Lib.nDigits_pos u
  rw [h, List.length_nil] at h1; omega
theorem decNat_dec (u : Nat) : Go.Lib.decNat (Go.Lib.decDigits u) = some u := by
  unfold Go.Lib.decNat
  rw [if_neg (by simpa using dec_ne u), decFrom_dec]
def atv (w : List UInt8) : Int := match Go.Lib.atoiAll w with
  | .ok v => v
  | .range => Go.Lib.atoiSat w
  | _ => 0
theorem itoa_len {n : Int} (h : -10000000000 < n ∧ n < 10000000000) : (Go.Lib.itoa n).length ≤ 11 := by
  unfold Go.Lib.itoa
  split
  · rw [List.length_cons, Go.Lib.decDigits_length]
    have := nDig_le 10 n.natAbs (by decide) (by omega)
    omega
  · rw [Go.Lib.decDigits_length]
    have := nDig_le 10 n.toNat (by decide) (by omega)
    omega
theorem atoi_itoa (n : Int) : Go.Lib.atoi (Go.Lib.itoa n) = some n := by
  unfold Go.Lib.itoa
  split
  · rename_i h
    rw [Go.Lib.atoi, if_pos (by decide), decNat_dec]
    show some (-((n.natAbs : Nat) : Int)) = some n
    congr 1; omega
  · rename_i h
    obtain ⟨b, r, e⟩ := List.exists_cons_of_ne_nil (dec_ne n.toNat)
    have hb := dec_digit n.toNat b (by rw [e]; exact List.mem_cons_self)
    have e1 := decNat_dec n.toNat
    rw [e] at e1 ⊢
    have h1 : ¬ (b == 45) = true := by rw [beq_iff_eq]; rintro rfl; exact absurd hb.1 (by decide)
    have h2 : ¬ (b == 43) = true := by rw [beq_iff_eq]; rintro rfl; exact absurd hb.1 (by decide)
    rw [Go.Lib.atoi, if_neg h1, if_neg h2, e1]
    show some ((n.toNat : Nat) : Int) = some n
    congr 1; omega
theorem atv_itoa {n : Int} (h : -10000000000 < n ∧ n < 10000000000) : atv (Go.Lib.itoa n) = n := by
  unfold atv
  rw [Go.Lib.atoiAll_short _ (by have := itoa_len h; omega), atoi_itoa]; rfl
def nst (n : Int) (b : UInt8) : Int := if 48 ≤ b.toNat ∧ b.toNat ≤ 57 then 10 * n + (b.toNat - 48 : Int) else n
def nmr (w : List UInt8) : Int := if w.head? = some 45 then -((w.take 12).foldl nst 0) else (w.take 12).foldl nst 0
end Go.Proofs.YtpbflnfcgcldkaaGreatDoor.Take
/- The text of a programme, and the programme of a text, in plain Lean, second part: rows, the two parsers, and that they agree. -/
namespace Go.Proofs.YtpbflnfcgcldkaaGreatDoor.Take
open Go.Sx
/-! ### the text -/
def part5 : List UInt8 := [112, 97, 114, 116]
def nB (n : Int) : List UInt8 := 32 :: Go.Lib.itoa n
def numB (x : Prt) : List UInt8 := nB x.fr ++ (nB x.to ++ (nB x.gap ++ (nB x.inn ++ (nB x.out ++ nB x.lev))))
def rowN (nm : List UInt8) (x : Prt) : List UInt8 := part5 ++ 32 :: (nm ++ numB x)
def rowB (l : List Tk) (x : Prt) : List UInt8 := rowN (byz (tkOf l x).name) x
def lnB (l : List Tk) (x : Prt) : List UInt8 := rowB l x ++ [10]
def tx (l : List Tk) (p : List Prt) : List UInt8 := p.flatMap (lnB l)
def txt (l : List Tk) (p : List Prt) : List UInt8 := if gErr l p = 0 then tx l p else []
theorem tx_app (l : List Tk) (p q : List Prt) : tx l (p ++ q) = tx l p ++ tx l q := List.flatMap_append
theorem tx_one (l : List Tk) (x : Prt) : tx l [x] = lnB l x := by simp [tx]
theorem nmB_not {c : UInt8} (hc : c = 10 ∨ c = 32) : nmB c = false := by rcases hc with rfl | rfl <;> rfl
theorem name_ok {l : List Tk} {x : Prt} (hl : TksOk l) (hx : PrtOk l x) : isNm (tkOf l x).name = true := by
  have h1 := hx.tk0
  have h2 := hx.tk1
  have hm : tkOf l x ∈ l := getD_mem (by omega)
  exact (tErr_zero.1 (hl.each _ hm)).2.1
theorem name_not {s : ByteArray} {c : UInt8} (h : isNm s = true) (hc : c = 10 ∨ c = 32) : c ∉ byz s := by
  unfold isNm at h
  rw [Bool.and_eq_true] at h
  intro m
  have := List.all_eq_true.1 h.2 c m
  rw [nmB_not hc] at this; cases this
theorem pcs_num {n : Int} {r : List UInt8} {a : List UInt8} (ha : (32 : UInt8) ∉ a) : pcs 32 (a ++ (nB n ++ r)) = a :: pcs 32 (Go.Lib.itoa n ++ r) := pcs_app ha
theorem pcs_row {nm : List UInt8} {x : Prt} (h : (32 : UInt8) ∉ nm) : pcs 32 (rowN nm x) = [part5, nm, Go.Lib.itoa x.fr, Go.Lib.itoa x.to, Go.Lib.itoa x.gap, Go.Lib.itoa x.inn, Go.Lib.itoa x.out, Go.Lib.itoa x.lev] := by
  have hn : ∀ n, (32 : UInt8) ∉ Go.Lib.itoa n := fun n => itoa_not (.inr rfl)
  unfold rowN numB
  rw [pcs_app (by decide), pcs_num h, pcs_num (hn _), pcs_num (hn _), pcs_num (hn _), pcs_num (hn _)]
  have e : pcs 32 (Go.Lib.itoa x.out ++ nB x.lev) = Go.Lib.itoa x.out :: pcs 32 (Go.Lib.itoa x.lev) := pcs_app (hn _)
  rw [e, pcs_none (hn _)]
theorem row_not {nm : List UInt8} {x : Prt} (h : (10 : UInt8) ∉ nm) : (10 : UInt8) ∉ rowN nm x := by
  have hn : ∀ n, (10 : UInt8) ∉ nB n := fun n m => by
    rcases List.mem_cons.1 m with q | q
    · exact absurd q (by decide)
    · exact itoa_not (.inl rfl) q
  unfold rowN numB
  simp only [List.mem_append, List.mem_cons, not_or]
  exact ⟨by decide, by decide, h, hn _, hn _, hn _, hn _, hn _, hn _⟩
/-! ### a take by its name -/
def lastIx (l : List Tk) (nm : ByteArray) : Nat → Int
  | 0 => -1
  | k + 1 => if (l.getD k default).name = nm then (k : Int) else lastIx l nm k
def ix (l : List Tk) (nm : ByteArray) : Int := lastIx l nm l.length
theorem lastIx_at {l : List Tk} (hn : (l.map Tk.name).Nodup) {i : Nat} (hi : i < l.length) : ∀ k, i < k → k ≤ l.length → lastIx l (l.getD i default).name k = i
  | k + 1, h, hk => by
    rw [lastIx]
    by_cases e : i = k
    · subst e; rw [if_pos rfl]
    · rw [if_neg]
      · exact lastIx_at hn hi k (by omega) (by omega)
      · intro q
        have hk2 : k < l.length := by omega
        have h1 : (l.map Tk.name)[k]'(by simpa using hk2) = (l.map Tk.name)[i]'(by simpa using hi) := by
          simp only [List.getElem_map]
          simpa [List.getD, hk2, hi] using q
        exact e ((List.getElem_inj hn).1 h1).symm
theorem ix_ok {l : List Tk} {x : Prt} (hl : TksOk l) (hx : PrtOk l x) : ix l (tkOf l x).name = x.tk := by
  have h1 := hx.tk0
  have h2 := hx.tk1
  have := lastIx_at hl.apart (i := x.tk.toNat) (by omega) l.length (by omega) (Nat.le_refl _)
  unfold ix tkOf
  rw [this]; omega
/-! ### the program's parser -/
def ln (s : List UInt8) : List UInt8 := (pcs 10 s).headD []
def aft (s : List UInt8) : List UInt8 := s.drop ((ln s).length + 1)
def rws (s : List UInt8) : List (List UInt8) := if _h : s = [] then [] else ln s :: rws (aft s)
termination_by s.length
decreasing_by
  have : s.length ≠ 0 := fun q => _h (List.length_eq_zero_iff.1 q)
  unfold aft; rw [List.length_drop]; omega
theorem rws_nil : rws [] = [] := by rw [rws, dif_pos rfl]
theorem rws_cons {s : List UInt8} (h : s ≠ []) : rws s = ln s :: rws (aft s) := by rw [rws, dif_neg h]
theorem aft_lt {s : List UInt8} (h : s ≠ []) : (aft s).length < s.length := by
  have : s.length ≠ 0 := fun q => h (List.length_eq_zero_iff.1 q)
  unfold aft; rw [List.length_drop]; omega
theorem ln_hit {a r : List UInt8} (h : (10 : UInt8) ∉ a) : ln (a ++ 10 :: r) = a ∧ aft (a ++ 10 :: r) = r := by
  have e : ln (a ++ 10 :: r) = a := by unfold ln; rw [pcs_app h]; rfl
  refine ⟨e, ?_⟩
  unfold aft
  rw [e, ← List.drop_drop, List.drop_left]; rfl
theorem ln_miss {a : List UInt8} (h : (10 : UInt8) ∉ a) : ln a = a ∧ aft a = [] := by
  have e : ln a = a := by unfold ln; rw [pcs_none h]; rfl
  refine ⟨e, ?_⟩
  unfold aft
  rw [e]; exact List.drop_eq_nil_of_le (by omega)
def gw (w : List (List UInt8)) (i : Nat) : List UInt8 := w.getD i []
def at1 (w : List (List UInt8)) (i : Nat) : Int := atv (gw w i)
def mk1 (l : List Tk) (w : List (List UInt8)) : Prt := ⟨ix l (stz (gw w 1)), at1 w 2, at1 w 3, at1 w 4, at1 w 5, at1 w 6, at1 w 7⟩
def pr1 (l : List Tk) (row : List UInt8) : Option Prt := if (pcs 32 row).length ≠ 8 then none else if ix l (stz (gw (pcs 32 row) 1)) < 0 then none else some (mk1 l (pcs 32 row))
def ps1 (l : List Tk) : List (List UInt8) → List Prt → Option (List Prt)
  | [], p => some p
  | row :: t, p => if p.length = 32 then none else match pr1 l row with
    | none => none
    | some x => ps1 l t (p ++ [x])
/-! ### the document's parser -/
def w9 (row : List UInt8) : List (List UInt8) := (pcs 32 row).take 9 ++ List.replicate 8 []
def at2 (w : List (List UInt8)) (i : Nat) : Int := nmr (gw w i)
def pr2 (l : List Tk) (row : List UInt8) : Prt := ⟨ix l (stz (gw (w9 row) 1)), at2 (w9 row) 2, at2 (w9 row) 3, at2 (w9 row) 4, at2 (w9 row) 5, at2 (w9 row) 6, at2 (w9 row) 7⟩
def rw2 (s : List UInt8) : List (List UInt8) := ((pcs 10 s).take 40).dropLast
def p2 (l : List Tk) (s : List UInt8) : List Prt := (rw2 s).map (pr2 l)
def unT (l : List Tk) (s : List UInt8) (p : List Prt) : List Prt × Int := if gErr l p = 0 ∧ tx l p = s then (p, 0) else ([], 8)
def pa1 (l : List Tk) (s : List UInt8) : List Prt × Int := if lErr l = 0 then (if 65536 < s.length then ([], 7) else match ps1 l (rws s) [] with
  | none => ([], 8)
  | some p => unT l s p) else ([], lErr l)
theorem bd_small {l : List Tk} {x : Prt} (hl : TksOk l) (hx : PrtOk l x) : (-10000000000 < x.fr ∧ x.fr < 10000000000) ∧ (-10000000000 < x.to ∧ x.to < 10000000000) ∧ (-10000000000 < x.gap ∧ x.gap < 10000000000) ∧ (-10000000000 < x.inn ∧ x.inn < 10000000000) ∧ (-10000000000 < x.out ∧ x.out < 10000000000) ∧ (-10000000000 < x.lev ∧ x.lev < 10000000000) := by
  have h1 := hx.tk0
  have h2 := hx.tk1
  have hm : tkOf l x ∈ l := getD_mem (by omega)
  have := (tErr_zero.1 (hl.each _ hm)).1
  have h3 := hx.fr0
  have h4 := hx.frto
  have h5 := hx.to1
  have h6 := hx.gap
  have h7 := hx.inn
  have h8 := hx.out
  have h9 := hx.lev
  omega
theorem pr1_row {l : List Tk} {x : Prt} (hl : TksOk l) (hx : PrtOk l x) : pr1 l (rowB l x) = some x := by
  have e := pcs_row (x := x) (name_not (name_ok hl hx) (.inr rfl))
  obtain ⟨b1, b2, b3, b4, b5, b6⟩ := bd_small hl hx
  have hi : ix l (stz (byz (tkOf l x).name)) = x.tk := by rw [stz_byz]; exact ix_ok hl hx
  have h1 := hx.tk0
  unfold pr1 rowB
  rw [e, if_neg (fun q => q rfl)]
  show (if ix l (stz (byz (tkOf l x).name)) < 0 then none else some (Prt.mk (ix l (stz (byz (tkOf l x).name))) (atv (Go.Lib.itoa x.fr)) (atv (Go.Lib.itoa x.to)) (atv (Go.Lib.itoa x.gap)) (atv (Go.Lib.itoa x.inn)) (atv (Go.Lib.itoa x.out)) (atv (Go.Lib.itoa x.lev)))) = some x
  rw [hi, if_neg (by omega), atv_itoa b1, atv_itoa b2, atv_itoa b3, atv_itoa b4, atv_itoa b5, atv_itoa b6]
theorem row_no10 {l : List Tk} {x : Prt} (hl : TksOk l) (hx : PrtOk l x) : (10 : UInt8) ∉ rowB l x := row_not (name_not (name_ok hl hx) (.inl rfl))
theorem rws_tx {l : List Tk} (hl : TksOk l) : ∀ p : List Prt, (∀ x ∈ p, PrtOk l x) → rws (tx l p) = p.map (rowB l)
  | [], _ => rws_nil
  | x :: p, h => by
    have e : tx l (x :: p) = rowB l x ++ 10 :: tx l p := by simp [tx, lnB]
    have := ln_hit (r := tx l p) (row_no10 hl (h x List.mem_cons_self))
    rw [e, rws_cons (by simp), this.1, this.2, rws_tx hl p fun y hy => h y (List.mem_cons_of_mem _ hy)]; rfl
theorem pcs_tx {l : List Tk} (hl : TksOk l) : ∀ p : List Prt, (∀ x ∈ p, PrtOk l x) → pcs 10 (tx l p) = p.map (rowB l) ++ [[]]
  | [], _ => rfl
  | x :: p, h => by
    have e : tx l (x :: p) = rowB l x ++ 10 :: tx l p := by simp [tx, lnB]
    rw [e, pcs_app (row_no10 hl (h x List.mem_cons_self)), pcs_tx hl p fun y hy => h y (List.mem_cons_of_mem _ hy)]; rfl
theorem ps1_rows {l : List Tk} (hl : TksOk l) : ∀ (p q : List Prt), (∀ x ∈ p, PrtOk l x) → q.length + p.length ≤ 32 → ps1 l (p.map (rowB l)) q = some (q ++ p)
  | [], q, _, _ => by rw [List.append_nil]; rfl
  | x :: p, q, h, hn => by
    rw [List.length_cons] at hn
    rw [List.map_cons, ps1, if_neg (by omega), pr1_row hl (h x List.mem_cons_self)]
    show ps1 l _ (q ++ [x]) = _
    rw [ps1_rows hl p _ (fun y hy => h y (List.mem_cons_of_mem _ hy)) (by rw [List.length_append, List.length_singleton]; omega), List.append_assoc]; rfl
theorem prog_each {l : List Tk} {p : List Prt} (h : gErr l p = 0) : TksOk l ∧ p.length ≤ 32 ∧ ∀ x ∈ p, PrtOk l x := by
  have hp := gErr_zero.1 h
  refine ⟨hp.tks, hp.most, fun x hx => ?_⟩
  obtain ⟨i, hi, e⟩ := List.getElem_of_mem hx
  have := hp.each i hi
  rw [pt, List.getD, List.getElem?_eq_getElem hi, Option.getD_some, e] at this
  exact this
theorem p1_tx {l : List Tk} {p : List Prt} (h : gErr l p = 0) : ps1 l (rws (tx l p)) [] = some p := by
  obtain ⟨hl, hn, he⟩ := prog_each h
  rw [rws_tx hl p he, ps1_rows hl p [] he (by simpa using hn)]; rfl
theorem tx_len {l : List Tk} {p : List Prt} (h : gErr l p = 0) : (tx l p).length ≤ 32 * 100 := by
  obtain ⟨hl, hn, he⟩ := prog_each h
  have : ∀ q : List Prt, (∀ x ∈ q, PrtOk l x) → (tx l q).length ≤ q.length * 100 := by
    intro q
    induction q with
    | nil => intro _; exact Nat.zero_le _
    | cons x q ih =>
      intro hq
      have hx := hq x List.mem_cons_self
      have h1 := ih fun y hy => hq y (List.mem_cons_of_mem _ hy)
      obtain ⟨b1, b2, b3, b4, b5, b6⟩ := bd_small hl hx
      have l1 := itoa_len b1
      have l2 := itoa_len b2
      have l3 := itoa_len b3
      have l4 := itoa_len b4
      have l5 := itoa_len b5
      have l6 := itoa_len b6
      have hm := name_ok hl hx
      unfold isNm at hm
      rw [Bool.and_eq_true, Bool.and_eq_true, decide_eq_true_iff, decide_eq_true_iff] at hm
      have hs := hm.1.2
      have e : (tx l (x :: q)).length = (lnB l x).length + (tx l q).length := by simp [tx]
      have e2 : (lnB l x).length = 5 + (tkOf l x).name.size + (6 + (Go.Lib.itoa x.fr).length + (Go.Lib.itoa x.to).length + (Go.Lib.itoa x.gap).length + (Go.Lib.itoa x.inn).length + (Go.Lib.itoa x.out).length + (Go.Lib.itoa x.lev).length) + 1 := by
        simp only [lnB, rowB, rowN, numB, nB, part5, List.length_append, List.length_cons, List.length_nil, byz_len]; omega
      rw [e, e2, List.length_cons]; omega
  have := this p he
  omega
theorem pa1_tx {l : List Tk} {p : List Prt} (h : gErr l p = 0) : pa1 l (tx l p) = (p, 0) := by
  have hl := tx_len h
  unfold pa1
  rw [if_pos (lErr_zero.2 (prog_each h).1), if_neg (by omega), p1_tx h]
  exact if_pos ⟨h, rfl⟩
end Go.Proofs.YtpbflnfcgcldkaaGreatDoor.Take
/- The document's takes and programmes: which are valid; walked. -/
namespace Go.Proofs.YtpbflnfcgcldkaaGreatDoor.Take
open Go.Sx Go.Proofs Go.RowKit
theorem nm_all {s : ByteArray} : s.data.toList.all nmB = true ↔ ∀ i, i < s.size → nmB (s.data.toList.getD i 0) = true := by
  have hl : s.data.toList.length = s.size := by rw [Array.length_toList]; rfl
  rw [List.all_eq_true]
  constructor
  · intro h i hi; rw [List.getD, List.getElem?_eq_getElem (by omega)]; exact h _ (List.getElem_mem _)
  · intro h x hx
    obtain ⟨i, hi, rfl⟩ := List.getElem_of_mem hx
    have := h i (by omega)
    rw [List.getD, List.getElem?_eq_getElem hi] at this
    exact this
theorem nmB_iff {b : UInt8} : nmB b = true ↔ (97 ≤ (b.toNat : Int) ∧ (b.toNat : Int) ≤ 122) ∨ (48 ≤ (b.toNat : Int) ∧ (b.toNat : Int) ≤ 57) := by
  unfold nmB; simp only [Bool.or_eq_true, Bool.and_eq_true, decide_eq_true_iff]; omega
theorem isNm_iff {s : ByteArray} : isNm s = true ↔ (1 ≤ s.size ∧ s.size ≤ 20) ∧ ∀ i, i < s.size → nmB (s.data.toList.getD i 0) = true := by
  unfold isNm; simp only [Bool.and_eq_true, decide_eq_true_iff]; rw [nm_all]
theorem lErr_two {l : List Tk} (h1 : 1 ≤ l.length ∧ l.length ≤ 16) (h6 : ∀ i, i < l.length → (l.getD i default).data.length ≤ 4096) {k : Nat} (hk : k < l.length) (h : tErr (l.getD k default) ≠ 0) : lErr l = 2 := by
  have n6 : ¬ l.any (fun t => decide (tErr t = 6)) = true := by
    rw [List.any_eq_true]; rintro ⟨t, ht, e⟩
    obtain ⟨i, hi, rfl⟩ := List.getElem_of_mem ht
    have := h6 i hi
    rw [decide_eq_true_iff, tErr_six] at e
    simp [List.getD, hi] at this; omega
  unfold lErr
  rw [if_neg (by omega), if_neg n6, if_pos (any_of hk (decide_eq_true h))]
theorem lErr_rest {l : List Tk} (h1 : 1 ≤ l.length ∧ l.length ≤ 16) (h0 : ∀ i, i < l.length → tErr (l.getD i default) = 0) : lErr l = if (l.map Tk.name).Nodup then 0 else 12 := by
  have all : ∀ t ∈ l, tErr t = 0 := by
    intro t ht
    obtain ⟨i, hi, rfl⟩ := List.getElem_of_mem ht
    have := h0 i hi
    simpa [List.getD, hi] using this
  have n6 : ¬ l.any (fun t => decide (tErr t = 6)) = true := by
    rw [List.any_eq_true]; rintro ⟨t, ht, e⟩
    have := all t ht
    rw [decide_eq_true_iff] at e; omega
  have n2 : ¬ l.any (fun t => decide (tErr t ≠ 0)) = true := by
    rw [List.any_eq_true]; rintro ⟨t, ht, e⟩
    have := all t ht
    rw [decide_eq_true_iff] at e; omega
  unfold lErr
  rw [if_neg (by omega), if_neg n6, if_neg n2]
theorem names_apart {l : List Tk} (h : ∀ i j, i < l.length → j < i → (l.getD i default).name ≠ (l.getD j default).name) : (l.map Tk.name).Nodup := by
  rw [List.Nodup, List.pairwise_iff_getElem]
  intro i j hi hj hij
  rw [List.length_map] at hi hj
  have := h j i hj hij
  simp [List.getD, hi, hj] at this
  simp only [List.getElem_map]
  exact fun e => this e.symm
theorem names_same {l : List Tk} {i j : Nat} (hi : i < l.length) (hj : j < i) (h : (l.getD i default).name = (l.getD j default).name) : ¬ (l.map Tk.name).Nodup := by
  rw [List.Nodup, List.pairwise_iff_getElem]
  intro hn
  have := hn j i (by rw [List.length_map]; omega) (by rw [List.length_map]; omega) hj
  simp [List.getD, hi, show j < l.length by omega] at h
  simp only [List.getElem_map] at this
  exact this h.symm
def bgns (p : List Prt) (n : Nat) : List Int := (List.range n).map fun i => bgn p i
theorem bgns_len (p : List Prt) (n : Nat) : (bgns p n).length = n := by simp [bgns]
theorem bgns_succ (p : List Prt) (n : Nat) : bgns p (n + 1) = bgns p n ++ [bgn p n] := by simp [bgns, List.range_succ]
theorem bgns_get {p : List Prt} {n i : Nat} (hi : i < n) : (bgns p n).getD i default = bgn p i := by simp [bgns, List.getD, hi]
theorem bgn_succ {p : List Prt} {i : Nat} (h0 : 0 < i) (hi : i < p.length) : bgn p i = en p (i - 1) + (pt p i).gap := by
  unfold bgn
  rw [← fin_take (i := i - 1) (by omega), show i - 1 + 1 = i by omega]
structure Gd (l : List Tk) (p : List Prt) : Prop where
  tks : TksOk l
  most : p.length ≤ 32
  each : ∀ i, i < p.length → PrtOk l (pt p i)
theorem gd_fin {l : List Tk} {p : List Prt} (h : Gd l p) {k : Nat} (hk : k ≤ p.length) : -262144 ≤ fin (p.take k) ∧ fin (p.take k) ≤ 262144 := by
  have := fin_bd h.tks k hk (fun i hi => goodP_iff.2 (h.each i (by omega)))
  have := h.most; omega
theorem gd_prt {l : List Tk} {p : List Prt} (h : Gd l p) {i : Nat} (hi : i < p.length) : (-4096 ≤ (pt p i).gap ∧ (pt p i).gap ≤ 4096) ∧ (1 ≤ lng (pt p i) ∧ lng (pt p i) ≤ 4096) ∧ 0 ≤ (pt p i).fr ∧ (pt p i).to ≤ 4096 := by
  have h2 := h.each i hi
  have h3 := h2.frto
  have h4 := h2.fr0
  have h5 := h2.to1
  have h7 : (tkOf l (pt p i)).data.length ≤ 4096 := by
    have a := h2.tk0; have b := h2.tk1
    exact (tErr_zero.1 (h.tks.each _ (getD_mem (i := (pt p i).tk.toNat) (by omega)))).1
  refine ⟨h2.gap, ?_⟩
  unfold lng; omega
theorem gd_bgn {l : List Tk} {p : List Prt} (h : Gd l p) {i : Nat} (hi : i < p.length) : (-280000 ≤ bgn p i ∧ bgn p i ≤ 280000) ∧ (-280000 ≤ en p i ∧ en p i ≤ 280000) ∧ en p i = bgn p i + lng (pt p i) ∧ bgn p i = fin (p.take i) + (pt p i).gap := by
  have h1 := gd_fin h (k := i) (by omega)
  have h2 := gd_prt h hi
  refine ⟨?_, ?_, rfl, rfl⟩
  · unfold bgn; omega
  · unfold en bgn; omega
section
variable {w : World} {A A2 : Option Addr} {c c2 : Nat}
theorem C_rIsName {s : ByteArray} : Con0 Tryz.prog 207 [.string s] w (.bool (isNm s)) := by
  have no : ∀ {p : Prop}, ¬ ((1 ≤ s.size ∧ s.size ≤ 20) ∧ ∀ i, i < s.size → nmB (s.data.toList.getD i 0) = true) → isNm s = false := fun h => by rw [Bool.eq_false_iff]; exact fun e => h (isNm_iff.1 e)
  refine Ret_of (vs := [_]) hm none' Tryz.func207 rfl Tryz.ntmps207 rfl ?_
  dsimp only [slotsOf]
  refine GE_seq ?_;refine GE_plain (.st 0 .nil) rfl ?_;refine GT_st rfl rfl rfl rfl (V_assign rfl rfl) ?_;refine GT_nil ?_;refine GE_seq ?_;refine GE_seq ?_;refine GE_plain (.st 0 (.st 1 (.st 2 (.st 3 (.st 4 (.st 5 (.st 6 (.st 7 .nil)))))))) rfl ?_;refine GT_st rfl rfl rfl rfl (V_move rfl rfl) ?_;refine GT_st rfl rfl rfl rfl (V_len_str rfl Tryz.underlying9 rfl) ?_;refine GT_st rfl rfl rfl rfl (V_lss rfl rfl rfl) ?_;refine GT_st rfl rfl rfl rfl (V_move rfl rfl) ?_;refine GT_split (d := 7) rfl (fun h1 => ?_) (fun h1 => ?_)
  · refine GT_skip rfl rfl rfl rfl rfl (by decide) rfl rfl ?_;refine GT_skip rfl rfl rfl rfl rfl (by decide) rfl rfl ?_;refine GT_skip rfl rfl rfl rfl rfl (by decide) rfl rfl ?_;refine GT_st rfl rfl rfl rfl (V_pick_t rfl rfl rfl) ?_;refine GT_nil ?_;refine GE_cond_t rfl ?_;refine GE_seq ?_;refine GE_slots (L' := []) trivial ?_;refine GE_plain (.st 0 .nil) rfl ?_;refine GT_st rfl rfl rfl rfl (V_assign rfl rfl) ?_;refine GT_nil ?_;refine GE_ret Tryz.func207 rfl (fun w hw => ⟨?_, hw.nil⟩)
    first | (rw [no (p := True) (by omega)]; done) | rw [no (p := True) (fun e => by have := nmB_iff.1 (e.2 k hkl); omega)]
  · refine GT_st_g rfl rfl rfl rfl rfl rfl rfl (V_move rfl rfl) ?_;refine GT_st_g rfl rfl rfl rfl rfl rfl rfl (V_len_str rfl Tryz.underlying9 rfl) ?_;refine GT_st_g rfl rfl rfl rfl rfl rfl rfl (V_gtr rfl rfl rfl) ?_;refine GT_st rfl rfl rfl rfl (V_pick_f rfl rfl rfl) ?_;refine GT_nil ?_;refine GE_cond rfl (fun q1 => ?_) (fun q1 => ?_)
    · refine GE_seq ?_;refine GE_slots (L' := []) trivial ?_;refine GE_plain (.st 0 .nil) rfl ?_;refine GT_st rfl rfl rfl rfl (V_assign rfl rfl) ?_;refine GT_nil ?_;refine GE_ret Tryz.func207 rfl (fun w hw => ⟨?_, hw.nil⟩)
      rw [no (p := True) (by omega)]
    · refine GE_skip ?_;refine GE_seq ?_;refine GE_seq ?_;refine GE_slots (L' := [(0, _)]) ⟨rfl, trivial⟩ ?_;refine GE_plain (.st 0 .nil) rfl ?_;refine GT_st rfl rfl rfl rfl (V_assign rfl rfl) ?_;refine GT_nil ?_;refine GE_block ?_;refine GE_to (GE_loop (ι := Nat) (fun k => s.size - k) (fun k => [(0, .string s), (3, I k)]) (fun k => []) (fun k => k ≤ s.size ∧ ∀ i, i < k → nmB (s.data.toList.getD i 0) = true) ?_ 0 ?_) ⟨rfl, rfl, trivial⟩ HS.nil
      · rintro k ⟨hk, hall⟩ ih
        refine GE_seq ?_;refine GE_seq ?_;refine GE_plain (.st 0 (.st 1 (.st 2 (.st 3 .nil)))) rfl ?_;refine GT_st rfl rfl rfl rfl (V_move rfl rfl) ?_;refine GT_st rfl rfl rfl rfl (V_move rfl rfl) ?_;refine GT_st rfl rfl rfl rfl (V_len_str rfl Tryz.underlying9 rfl) ?_;refine GT_st rfl rfl rfl rfl (V_lss rfl rfl rfl) ?_;refine GT_nil ?_;refine GE_cond rfl (fun q2 => ?_) (fun q2 => ?_)
        · have hkl : k < s.size := (by omega)
          refine GE_skip ?_;refine GE_seq ?_;refine GE_block ?_;refine GE_seq ?_;refine GE_slots (L' := [(0, _), (3, _)]) ⟨rfl, rfl, trivial⟩ ?_;refine GE_plain (.st 0 (.st 1 (.st 2 (.st 3 (.st 4 (.st 5 (.st 6 (.st 7 (.st 8 (.st 9 (.st 10 (.st 11 (.st 12 (.st 13 (.st 14 (.st 15 (.st 16 (.st 17 (.st 18 (.st 19 (.st 20 (.st 21 (.st 22 (.st 23 .nil)))))))))))))))))))))))) rfl ?_;refine GT_st rfl rfl rfl rfl (V_move rfl rfl) ?_;refine GT_st rfl rfl rfl rfl (V_move rfl rfl) ?_;refine GT_st rfl rfl rfl rfl (V_indexStr rfl rfl rfl Tryz.underlying9 rfl (by omega)) ?_;refine GT_st rfl rfl rfl rfl (V_geq rfl rfl rfl) ?_;refine GT_st rfl rfl rfl rfl (V_move rfl rfl) ?_;refine GT_split (d := 22) rfl (fun q3 => ?_) (fun q3 => ?_)
          · refine GT_st_g rfl rfl rfl rfl rfl rfl rfl (V_move rfl rfl) ?_;refine GT_st_g rfl rfl rfl rfl rfl rfl rfl (V_move rfl rfl) ?_;refine GT_st_g rfl rfl rfl rfl rfl rfl rfl (V_indexStr rfl rfl rfl Tryz.underlying9 rfl (by omega)) ?_;refine GT_st_g rfl rfl rfl rfl rfl rfl rfl (V_leq rfl rfl rfl) ?_;refine GT_st rfl rfl rfl rfl (V_pick_t rfl rfl rfl) ?_;refine GT_st rfl rfl rfl rfl (V_not rfl rfl) ?_;refine GT_st rfl rfl rfl rfl (V_move rfl rfl) ?_;refine GT_splitNot (d := 29) rfl (fun q4 => ?_) (fun q4 => ?_)
            · refine GT_st_g rfl rfl rfl rfl rfl rfl rfl (V_move rfl rfl) ?_;refine GT_st_g rfl rfl rfl rfl rfl rfl rfl (V_move rfl rfl) ?_;refine GT_st_g rfl rfl rfl rfl rfl rfl rfl (V_indexStr rfl rfl rfl Tryz.underlying9 rfl (by omega)) ?_;refine GT_st_g rfl rfl rfl rfl rfl rfl rfl (V_geq rfl rfl rfl) ?_;refine GT_st_g rfl rfl rfl rfl rfl rfl rfl (V_move rfl rfl) ?_;refine GT_split (d := 34) rfl (fun q5 => ?_) (fun q5 => ?_)
              · refine GT_st_g rfl rfl rfl rfl rfl rfl rfl (V_move rfl rfl) ?_;refine GT_st_g rfl rfl rfl rfl rfl rfl rfl (V_move rfl rfl) ?_;refine GT_st_g rfl rfl rfl rfl rfl rfl rfl (V_indexStr rfl rfl rfl Tryz.underlying9 rfl (by omega)) ?_;refine GT_st_g rfl rfl rfl rfl rfl rfl rfl (V_leq rfl rfl rfl) ?_;refine GT_st_g rfl rfl rfl rfl rfl rfl rfl (V_pick_t rfl rfl rfl) ?_;refine GT_st_g rfl rfl rfl rfl rfl rfl rfl (V_not rfl rfl) ?_;refine GT_st rfl rfl rfl rfl (V_pick_t rfl rfl rfl) ?_;refine GT_nil ?_;refine GE_condNot rfl (fun q6 => ?_) (fun q6 => ?_)
                · refine GE_seq ?_;refine GE_slots (L' := []) trivial ?_;refine GE_plain (.st 0 .nil) rfl ?_;refine GT_st rfl rfl rfl rfl (V_assign rfl rfl) ?_;refine GT_nil ?_;refine GE_ret Tryz.func207 rfl (fun w hw => ⟨?_, hw.nil⟩)
                  rw [no (p := True) (fun e => by have := nmB_iff.1 (e.2 k hkl); omega)]
                · refine GE_skip ?_;refine GE_inBlock ?_;refine GE_slots (L' := [(0, _), (3, _), (23, _), (24, _), (25, _), (26, _), (30, _), (31, _), (32, _), (33, _), (34, _), (35, _), (36, _), (37, _), (38, _), (39, _), (40, _)]) ⟨rfl, rfl, rfl, rfl, rfl, rfl, rfl, rfl, rfl, rfl, rfl, rfl, rfl, rfl, rfl, rfl, rfl, trivial⟩ ?_;refine GE_plain (.st 0 (.st 1 (.ld 2 [] .nil))) rfl ?_;refine GT_st rfl rfl rfl rfl (V_move rfl rfl) ?_;refine GT_st rfl rfl rfl rfl (V_add rfl rfl rfl (wrap_i64 (by omega))) ?_;refine GT_ldv rfl rfl rfl rfl rfl (V_assign rfl rfl) (GR_nil) ?_;refine GT_nil ?_
                  exact GE_to (ih (k + 1) ⟨by omega, fun i hi => by rcases Nat.lt_or_ge i k with r | r; exact hall i r; rw [show i = k by omega]; exact nmB_iff.2 (by omega)⟩ (by omega)) ⟨rfl, rfl, trivial⟩ HS.nil
              · refine GT_skip rfl rfl rfl rfl rfl (by decide) rfl rfl ?_;refine GT_skip rfl rfl rfl rfl rfl (by decide) rfl rfl ?_;refine GT_skip rfl rfl rfl rfl rfl (by decide) rfl rfl ?_;refine GT_skip rfl rfl rfl rfl rfl (by decide) rfl rfl ?_;refine GT_st_g rfl rfl rfl rfl rfl rfl rfl (V_pick_f rfl rfl rfl) ?_;refine GT_st_g rfl rfl rfl rfl rfl rfl rfl (V_notB rfl rfl) ?_;refine GT_st rfl rfl rfl rfl (V_pick_t rfl rfl rfl) ?_;refine GT_nil ?_;refine GE_cond_t rfl ?_;refine GE_seq ?_;refine GE_slots (L' := []) trivial ?_;refine GE_plain (.st 0 .nil) rfl ?_;refine GT_st rfl rfl rfl rfl (V_assign rfl rfl) ?_;refine GT_nil ?_;refine GE_ret Tryz.func207 rfl (fun w hw => ⟨?_, hw.nil⟩)
                first | (rw [no (p := True) (by omega)]; done) | rw [no (p := True) (fun e => by have := nmB_iff.1 (e.2 k hkl); omega)]
            · refine GT_skip rfl rfl rfl rfl rfl (by decide) rfl rfl ?_;refine GT_skip rfl rfl rfl rfl rfl (by decide) rfl rfl ?_;refine GT_skip rfl rfl rfl rfl rfl (by decide) rfl rfl ?_;refine GT_skip rfl rfl rfl rfl rfl (by decide) rfl rfl ?_;refine GT_skip rfl rfl rfl rfl rfl (by decide) rfl rfl ?_;refine GT_skip rfl rfl rfl rfl rfl (by decide) rfl rfl ?_;refine GT_skip rfl rfl rfl rfl rfl (by decide) rfl rfl ?_;refine GT_skip rfl rfl rfl rfl rfl (by decide) rfl rfl ?_;refine GT_skip rfl rfl rfl rfl rfl (by decide) rfl rfl ?_;refine GT_skip rfl rfl rfl rfl rfl (by decide) rfl rfl ?_;refine GT_skip rfl rfl rfl rfl rfl (by decide) rfl rfl ?_;refine GT_st rfl rfl rfl rfl (V_pick_f rfl rfl rfl) ?_;refine GT_nil ?_;refine GE_cond_f rfl ?_;refine GE_skip ?_;refine GE_inBlock ?_;refine GE_slots (L' := [(0, _), (3, _), (23, _), (24, _), (25, _), (26, _), (30, _), (31, _), (32, _), (33, _), (34, _), (35, _), (36, _), (37, _), (38, _), (39, _), (40, _)]) ⟨rfl, rfl, rfl, rfl, rfl, rfl, rfl, rfl, rfl, rfl, rfl, rfl, rfl, rfl, rfl, rfl, rfl, trivial⟩ ?_;refine GE_plain (.st 0 (.st 1 (.ld 2 [] .nil))) rfl ?_;refine GT_st rfl rfl rfl rfl (V_move rfl rfl) ?_;refine GT_st rfl rfl rfl rfl (V_add rfl rfl rfl (wrap_i64 (by omega))) ?_;refine GT_ldv rfl rfl rfl rfl rfl (V_assign rfl rfl) (GR_nil) ?_;refine GT_nil ?_
              exact GE_to (ih (k + 1) ⟨by omega, fun i hi => by rcases Nat.lt_or_ge i k with r | r; exact hall i r; rw [show i = k by omega]; exact nmB_iff.2 (by omega)⟩ (by omega)) ⟨rfl, rfl, trivial⟩ HS.nil
          · refine GT_skip rfl rfl rfl rfl rfl (by decide) rfl rfl ?_;refine GT_skip rfl rfl rfl rfl rfl (by decide) rfl rfl ?_;refine GT_skip rfl rfl rfl rfl rfl (by decide) rfl rfl ?_;refine GT_skip rfl rfl rfl rfl rfl (by decide) rfl rfl ?_;refine GT_st rfl rfl rfl rfl (V_pick_f rfl rfl rfl) ?_;refine GT_st rfl rfl rfl rfl (V_notB rfl rfl) ?_;refine GT_st rfl rfl rfl rfl (V_move rfl rfl) ?_;refine GT_st_g rfl rfl rfl rfl rfl rfl rfl (V_move rfl rfl) ?_;refine GT_st_g rfl rfl rfl rfl rfl rfl rfl (V_move rfl rfl) ?_;refine GT_st_g rfl rfl rfl rfl rfl rfl rfl (V_indexStr rfl rfl rfl Tryz.underlying9 rfl (by omega)) ?_;refine GT_st_g rfl rfl rfl rfl rfl rfl rfl (V_geq rfl rfl rfl) ?_;refine GT_st_g rfl rfl rfl rfl rfl rfl rfl (V_move rfl rfl) ?_;refine GT_split (d := 34) rfl (fun q5 => ?_) (fun q5 => ?_)
            · refine GT_st_g rfl rfl rfl rfl rfl rfl rfl (V_move rfl rfl) ?_;refine GT_st_g rfl rfl rfl rfl rfl rfl rfl (V_move rfl rfl) ?_;refine GT_st_g rfl rfl rfl rfl rfl rfl rfl (V_indexStr rfl rfl rfl Tryz.underlying9 rfl (by omega)) ?_;refine GT_st_g rfl rfl rfl rfl rfl rfl rfl (V_leq rfl rfl rfl) ?_;refine GT_st_g rfl rfl rfl rfl rfl rfl rfl (V_pick_t rfl rfl rfl) ?_;refine GT_st_g rfl rfl rfl rfl rfl rfl rfl (V_not rfl rfl) ?_;refine GT_st rfl rfl rfl rfl (V_pick_t rfl rfl rfl) ?_;refine GT_nil ?_;refine GE_condNot rfl (fun q6 => ?_) (fun q6 => ?_)
              · refine GE_seq ?_;refine GE_slots (L' := []) trivial ?_;refine GE_plain (.st 0 .nil) rfl ?_;refine GT_st rfl rfl rfl rfl (V_assign rfl rfl) ?_;refine GT_nil ?_;refine GE_ret Tryz.func207 rfl (fun w hw => ⟨?_, hw.nil⟩)
                rw [no (p := True) (fun e => by have := nmB_iff.1 (e.2 k hkl); omega)]
              · refine GE_skip ?_;refine GE_inBlock ?_;refine GE_slots (L' := [(0, _), (3, _), (23, _), (24, _), (25, _), (26, _), (30, _), (31, _), (32, _), (33, _), (34, _), (35, _), (36, _), (37, _), (38, _), (39, _), (40, _)]) ⟨rfl, rfl, rfl, rfl, rfl, rfl, rfl, rfl, rfl, rfl, rfl, rfl, rfl, rfl, rfl, rfl, rfl, trivial⟩ ?_;refine GE_plain (.st 0 (.st 1 (.ld 2 [] .nil))) rfl ?_;refine GT_st rfl rfl rfl rfl (V_move rfl rfl) ?_;refine GT_st rfl rfl rfl rfl (V_add rfl rfl rfl (wrap_i64 (by omega))) ?_;refine GT_ldv rfl rfl rfl rfl rfl (V_assign rfl rfl) (GR_nil) ?_;refine GT_nil ?_
                exact GE_to (ih (k + 1) ⟨by omega, fun i hi => by rcases Nat.lt_or_ge i k with r | r; exact hall i r; rw [show i = k by omega]; exact nmB_iff.2 (by omega)⟩ (by omega)) ⟨rfl, rfl, trivial⟩ HS.nil
            · refine GT_skip rfl rfl rfl rfl rfl (by decide) rfl rfl ?_;refine GT_skip rfl rfl rfl rfl rfl (by decide) rfl rfl ?_;refine GT_skip rfl rfl rfl rfl rfl (by decide) rfl rfl ?_;refine GT_skip rfl rfl rfl rfl rfl (by decide) rfl rfl ?_;refine GT_st_g rfl rfl rfl rfl rfl rfl rfl (V_pick_f rfl rfl rfl) ?_;refine GT_st_g rfl rfl rfl rfl rfl rfl rfl (V_notB rfl rfl) ?_;refine GT_st rfl rfl rfl rfl (V_pick_t rfl rfl rfl) ?_;refine GT_nil ?_;refine GE_cond_t rfl ?_;refine GE_seq ?_;refine GE_slots (L' := []) trivial ?_;refine GE_plain (.st 0 .nil) rfl ?_;refine GT_st rfl rfl rfl rfl (V_assign rfl rfl) ?_;refine GT_nil ?_;refine GE_ret Tryz.func207 rfl (fun w hw => ⟨?_, hw.nil⟩)
              first | (rw [no (p := True) (by omega)]; done) | rw [no (p := True) (fun e => by have := nmB_iff.1 (e.2 k hkl); omega)]
        · refine GE_exit rfl ?_;refine GE_seq ?_;refine GE_slots (L' := []) trivial ?_;refine GE_plain (.st 0 .nil) rfl ?_;refine GT_st rfl rfl rfl rfl (V_assign rfl rfl) ?_;refine GT_nil ?_;refine GE_ret Tryz.func207 rfl (fun w hw => ⟨?_, hw.nil⟩)
          rw [isNm_iff.2 ⟨⟨by omega, by omega⟩, fun i hi => hall i (by omega)⟩]
      · exact ⟨Nat.zero_le _, fun i hi => absurd hi (Nat.not_lt_zero _)⟩
theorem C_rtake {t : Tk} (h : RdL w 2 eSam t.A t.data) (hs : ∀ x ∈ t.data, x.wf) : Con0 Tryz.prog 147 [.agg #[.string t.name, .slice t.A t.data.length t.c]] w (I (tErr t)) := by
  refine Ret_of (vs := [_]) hm none' Tryz.func147 rfl Tryz.ntmps147 rfl ?_
  dsimp only [slotsOf]
  refine GE_seq ?_;refine GE_plain (.ld 0 [] (.st 1 .nil)) rfl ?_;refine GT_box (z := [_, _]) rfl rfl rfl rfl rfl rfl rfl (fun _ => GR_nil) (fun b1 => ?_)
  refine GT_st rfl rfl rfl rfl (V_assign rfl rfl) ?_;refine GT_nil ?_;refine GE_seq ?_;refine GE_seq ?_;refine GE_plain (.st 0 (.st 1 (.st 2 (.st 3 .nil)))) rfl ?_;refine GT_st rfl rfl rfl rfl (V_field rfl rfl fo_230_1) ?_;refine GT_st rfl rfl rfl rfl (V_load rfl rfl ag_228 (CellAt.item rfl)) ?_;refine GT_st rfl rfl rfl rfl (V_len rfl Tryz.underlying228 rfl) ?_;refine GT_st rfl rfl rfl rfl (V_gtr rfl rfl rfl) ?_;refine GT_nil ?_;refine GE_cond rfl (fun q1 => ?_) (fun q1 => ?_)
  · refine GE_seq ?_;refine GE_slots (L' := []) trivial ?_;refine GE_plain (.st 0 .nil) rfl ?_;refine GT_st rfl rfl rfl rfl (V_assign rfl rfl) ?_;refine GT_nil ?_;refine GE_ret Tryz.func147 rfl (fun w hw => ⟨?_, hw.nil⟩)
    rw [tErr, if_pos (by omega)]
  · refine GE_skip ?_;refine GE_seq ?_;refine GE_seq ?_;refine GE_slots (L' := [(1, _)]) ⟨rfl, trivial⟩ ?_;refine GE_plain (.st 0 (.st 1 (.ld 2 [] (.st 3 (.st 4 (.st 5 (.st 6 (.st 7 (.st 8 (.st 9 .nil)))))))))) rfl ?_;refine GT_st rfl rfl rfl rfl (V_field rfl rfl fo_230_0) ?_;refine GT_st rfl rfl rfl rfl (V_load rfl rfl ag_9 (CellAt.item rfl)) ?_;refine GT_call0 rfl rfl rfl rfl rfl rfl rfl rfl rn_207 (fun w hw => C_rIsName) (GR_nil) ?_;refine GT_st rfl rfl rfl rfl (V_notB rfl rfl) ?_;refine GT_st rfl rfl rfl rfl (V_move rfl rfl) ?_;refine GT_splitNotB (d := 11) rfl (fun q2 => ?_) (fun q2 => ?_)
    · refine GT_skip rfl rfl rfl rfl rfl (by decide) rfl rfl ?_;refine GT_skip rfl rfl rfl rfl rfl (by decide) rfl rfl ?_;refine GT_skip rfl rfl rfl rfl rfl (by decide) rfl rfl ?_;refine GT_skip rfl rfl rfl rfl rfl (by decide) rfl rfl ?_;refine GT_st rfl rfl rfl rfl (V_pick_t rfl rfl rfl) ?_;refine GT_nil ?_;refine GE_cond_t rfl ?_;refine GE_seq ?_;refine GE_slots (L' := []) trivial ?_;refine GE_plain (.st 0 .nil) rfl ?_;refine GT_st rfl rfl rfl rfl (V_assign rfl rfl) ?_;refine GT_nil ?_;refine GE_ret Tryz.func147 rfl (fun w hw => ⟨?_, hw.nil⟩)
      first | (have hn : ¬ 4096 < t.data.length := (by omega); have hz : t.data.length ≠ 0 := (by omega); refine congrArg I ?_; unfold sErr tErr; rw [if_neg hn, if_neg hn, q2]; simp [hz]; done) | (refine congrArg I (Eq.symm ?_); rw [tErr, if_neg (by omega), if_neg]; rw [q2]; simp)
    · refine GT_st_g rfl rfl rfl rfl rfl rfl rfl (V_field rfl rfl fo_230_1) ?_;refine GT_st_g rfl rfl rfl rfl rfl rfl rfl (V_load rfl rfl ag_228 (CellAt.item rfl)) ?_;refine GT_st_g rfl rfl rfl rfl rfl rfl rfl (V_len rfl Tryz.underlying228 rfl) ?_;refine GT_st_g rfl rfl rfl rfl rfl rfl rfl (V_eql rfl rfl rfl) ?_;refine GT_st rfl rfl rfl rfl (V_pick_f rfl rfl rfl) ?_;refine GT_nil ?_;refine GE_cond rfl (fun q3 => ?_) (fun q3 => ?_)
      · refine GE_seq ?_;refine GE_slots (L' := []) trivial ?_;refine GE_plain (.st 0 .nil) rfl ?_;refine GT_st rfl rfl rfl rfl (V_assign rfl rfl) ?_;refine GT_nil ?_;refine GE_ret Tryz.func147 rfl (fun w hw => ⟨?_, hw.nil⟩)
        refine congrArg I (Eq.symm ?_); rw [tErr, if_neg (by omega), if_neg]; rw [Bool.and_eq_true, Bool.and_eq_true, decide_eq_true_iff]; rintro ⟨⟨_, hh⟩, _⟩; omega
      · refine GE_skip ?_;refine GE_seq ?_;refine GE_slots (L' := [(1, _)]) ⟨rfl, trivial⟩ ?_;refine GE_plain (.st 0 (.st 1 (.ld 2 [] (.st 3 .nil)))) rfl ?_;refine GT_st rfl rfl rfl rfl (V_field rfl rfl fo_230_1) ?_;refine GT_st rfl rfl rfl rfl (V_load rfl rfl ag_228 (CellAt.item rfl)) ?_;refine GT_call0 rfl rfl rfl rfl rfl rfl rfl rfl rn_208 (fun w hw => C_rCheckSamples (h.sh hw) hs) (GR_nil) ?_;refine GT_st rfl rfl rfl rfl (V_assign rfl rfl) ?_;refine GT_nil ?_;refine GE_ret Tryz.func147 rfl (fun w hw => ⟨?_, hw.nil⟩)
        first | (have hn : ¬ 4096 < t.data.length := (by omega); have hz : t.data.length ≠ 0 := (by omega); refine congrArg I ?_; unfold sErr tErr; rw [if_neg hn, if_neg hn, q2]; simp [hz]; done) | (refine congrArg I (Eq.symm ?_); rw [tErr, if_neg (by omega), if_neg]; rw [q2]; simp)
set_option maxRecDepth 10000 in
theorem C_rCheckTakes {l : List Tk} (h : Tks w A l) : Con0 Tryz.prog 91 [.slice A l.length c] w (I (lErr l)) := by
  refine Ret_of (vs := [_]) hm none' Tryz.func91 rfl Tryz.ntmps91 rfl ?_
  dsimp only [slotsOf]
  refine GE_seq ?_;refine GE_plain (.st 0 .nil) rfl ?_;refine GT_st rfl rfl rfl rfl (V_assign rfl rfl) ?_;refine GT_nil ?_;refine GE_seq ?_;refine GE_seq ?_;refine GE_plain (.st 0 (.st 1 (.st 2 (.st 3 (.st 4 (.st 5 (.st 6 (.st 7 .nil)))))))) rfl ?_;refine GT_st rfl rfl rfl rfl (V_move rfl rfl) ?_;refine GT_st rfl rfl rfl rfl (V_len rfl Tryz.underlying107 rfl) ?_;refine GT_st rfl rfl rfl rfl (V_lss rfl rfl rfl) ?_;refine GT_st rfl rfl rfl rfl (V_move rfl rfl) ?_;refine GT_split (d := 10) rfl (fun h1 => ?_) (fun h1 => ?_)
  · refine GT_skip rfl rfl rfl rfl rfl (by decide) rfl rfl ?_;refine GT_skip rfl rfl rfl rfl rfl (by decide) rfl rfl ?_;refine GT_skip rfl rfl rfl rfl rfl (by decide) rfl rfl ?_;refine GT_st rfl rfl rfl rfl (V_pick_t rfl rfl rfl) ?_;refine GT_nil ?_;refine GE_cond_t rfl ?_;refine GE_seq ?_;refine GE_slots (L' := []) trivial ?_;refine GE_plain (.st 0 .nil) rfl ?_;refine GT_st rfl rfl rfl rfl (V_assign rfl rfl) ?_;refine GT_nil ?_;refine GE_ret Tryz.func91 rfl (fun w hw => ⟨?_, hw.nil⟩)
    rw [lErr, if_pos (by omega)]
  · refine GT_st_g rfl rfl rfl rfl rfl rfl rfl (V_move rfl rfl) ?_;refine GT_st_g rfl rfl rfl rfl rfl rfl rfl (V_len rfl Tryz.underlying107 rfl) ?_;refine GT_st_g rfl rfl rfl rfl rfl rfl rfl (V_gtr rfl rfl rfl) ?_;refine GT_st rfl rfl rfl rfl (V_pick_f rfl rfl rfl) ?_;refine GT_nil ?_;refine GE_cond rfl (fun q1 => ?_) (fun q1 => ?_)
    · refine GE_seq ?_;refine GE_slots (L' := []) trivial ?_;refine GE_plain (.st 0 .nil) rfl ?_;refine GT_st rfl rfl rfl rfl (V_assign rfl rfl) ?_;refine GT_nil ?_;refine GE_ret Tryz.func91 rfl (fun w hw => ⟨?_, hw.nil⟩)
      rw [lErr, if_pos (by omega)]
    · refine GE_skip ?_;refine GE_seq ?_;refine GE_seq ?_;refine GE_slots (L' := [(0, _)]) ⟨rfl, trivial⟩ ?_;refine GE_plain (.st 0 .nil) rfl ?_;refine GT_st rfl rfl rfl rfl (V_assign rfl rfl) ?_;refine GT_nil ?_;refine GE_block ?_;refine GE_to (GE_loop (ι := Nat) (fun k => l.length - k) (fun k => [(0, .slice A l.length c), (3, I k)]) (fun k => []) (fun k => k ≤ l.length ∧ ∀ i, i < k → (l.getD i default).data.length ≤ 4096) ?_ 0 ?_) ⟨rfl, rfl, trivial⟩ HS.nil
      · rintro k ⟨hk, h6⟩ ih
        refine GE_seq ?_;refine GE_seq ?_;refine GE_plain (.st 0 (.st 1 (.st 2 (.st 3 .nil)))) rfl ?_;refine GT_st rfl rfl rfl rfl (V_move rfl rfl) ?_;refine GT_st rfl rfl rfl rfl (V_move rfl rfl) ?_;refine GT_st rfl rfl rfl rfl (V_len rfl Tryz.underlying107 rfl) ?_;refine GT_st rfl rfl rfl rfl (V_lss rfl rfl rfl) ?_;refine GT_nil ?_;refine GE_cond rfl (fun q2 => ?_) (fun q2 => ?_)
        · have hkl : k < l.length := (by omega)
          refine GE_skip ?_;refine GE_seq ?_;refine GE_block ?_;refine GE_seq ?_;refine GE_slots (L' := [(0, _), (3, _)]) ⟨rfl, rfl, trivial⟩ ?_;refine GE_plain (.st 0 (.st 1 (.st 2 (.st 3 (.st 4 (.st 5 (.st 6 .nil))))))) rfl ?_;refine GT_st rfl rfl rfl rfl (V_move rfl rfl) ?_;refine GT_st rfl rfl rfl rfl (V_move rfl rfl) ?_;refine GT_st rfl rfl rfl rfl (V_index rfl rfl rfl Tryz.underlying107 sz_230 (k := k) rfl hkl (h.1.isSome hkl)) ?_;refine GT_st rfl rfl rfl rfl (V_fieldA rfl rfl fo_230_1) ?_;refine GT_st rfl rfl rfl rfl (V_load rfl rfl ag_228 (h.1.at1 noM hkl rfl)) ?_;refine GT_st rfl rfl rfl rfl (V_len rfl Tryz.underlying228 rfl) ?_;refine GT_st rfl rfl rfl rfl (V_gtr rfl rfl rfl) ?_;refine GT_nil ?_;refine GE_cond rfl (fun q3 => ?_) (fun q3 => ?_)
          · refine GE_seq ?_;refine GE_slots (L' := []) trivial ?_;refine GE_plain (.st 0 .nil) rfl ?_;refine GT_st rfl rfl rfl rfl (V_assign rfl rfl) ?_;refine GT_nil ?_;refine GE_ret Tryz.func91 rfl (fun w hw => ⟨?_, hw.nil⟩)
            rw [lErr_six hkl (tErr_six.2 (by omega))]
          · refine GE_skip ?_;refine GE_inBlock ?_;refine GE_slots (L' := [(0, _), (3, _)]) ⟨rfl, rfl, trivial⟩ ?_;refine GE_plain (.st 0 (.st 1 (.ld 2 [] .nil))) rfl ?_;refine GT_st rfl rfl rfl rfl (V_move rfl rfl) ?_;refine GT_st rfl rfl rfl rfl (V_add rfl rfl rfl (wrap_i64 (by omega))) ?_;refine GT_ldv rfl rfl rfl rfl rfl (V_assign rfl rfl) (GR_nil) ?_;refine GT_nil ?_
            exact GE_to (ih (k + 1) ⟨by omega, fun i hi => by rcases Nat.lt_or_ge i k with r | r; exact h6 i r; rw [show i = k by omega]; omega⟩ (by omega)) ⟨rfl, rfl, trivial⟩ HS.nil
        · have h6a : ∀ i, i < l.length → (l.getD i default).data.length ≤ 4096 := (fun i hi => h6 i (by omega))
          refine GE_exit rfl ?_;refine GE_seq ?_;refine GE_seq ?_;refine GE_slots (L' := [(0, _)]) ⟨rfl, trivial⟩ ?_;refine GE_plain (.st 0 .nil) rfl ?_;refine GT_st rfl rfl rfl rfl (V_assign rfl rfl) ?_;refine GT_nil ?_;refine GE_block ?_;refine GE_to (GE_loop (ι := Nat) (fun j => l.length - j) (fun j => [(0, .slice A l.length c), (4, I j)]) (fun j => []) (fun j => j ≤ l.length ∧ ∀ i, i < j → tErr (l.getD i default) = 0) ?_ 0 ?_) ⟨rfl, rfl, trivial⟩ HS.nil
          · rintro j ⟨hj, h0⟩ ih2
            refine GE_seq ?_;refine GE_seq ?_;refine GE_plain (.st 0 (.st 1 (.st 2 (.st 3 .nil)))) rfl ?_;refine GT_st rfl rfl rfl rfl (V_move rfl rfl) ?_;refine GT_st rfl rfl rfl rfl (V_move rfl rfl) ?_;refine GT_st rfl rfl rfl rfl (V_len rfl Tryz.underlying107 rfl) ?_;refine GT_st rfl rfl rfl rfl (V_lss rfl rfl rfl) ?_;refine GT_nil ?_;refine GE_cond rfl (fun q4 => ?_) (fun q4 => ?_)
            · have hjl : j < l.length := (by omega); have ht := h.2 _ (getD_mem hjl)
              refine GE_skip ?_;refine GE_seq ?_;refine GE_block ?_;refine GE_seq ?_;refine GE_slots (L' := [(0, _), (4, _)]) ⟨rfl, rfl, trivial⟩ ?_;refine GE_plain (.st 0 (.st 1 (.st 2 (.st 3 (.ld 4 [] (.st 5 .nil)))))) rfl ?_;refine GT_st rfl rfl rfl rfl (V_move rfl rfl) ?_;refine GT_st rfl rfl rfl rfl (V_move rfl rfl) ?_;refine GT_st rfl rfl rfl rfl (V_index rfl rfl rfl Tryz.underlying107 sz_230 (k := j) rfl hjl (h.1.isSome hjl)) ?_;refine GT_st rfl rfl rfl rfl (V_loadN (vs := [_, _]) rfl rfl ag_230 sz_230 rfl (h.1.ats noM hjl)) ?_;refine GT_call0 rfl rfl rfl rfl rfl rfl rfl rfl rn_147 (fun w hw => C_rtake (t := l.getD j default) (ht.1.sh hw) ht.2.2.2) (GR_nil) ?_;refine GT_st rfl rfl rfl rfl (V_neq rfl rfl rfl) ?_;refine GT_nil ?_;refine GE_condNot rfl (fun q5 => ?_) (fun q5 => ?_)
              · refine GE_seq ?_;refine GE_slots (L' := []) trivial ?_;refine GE_plain (.st 0 .nil) rfl ?_;refine GT_st rfl rfl rfl rfl (V_assign rfl rfl) ?_;refine GT_nil ?_;refine GE_ret Tryz.func91 rfl (fun w hw => ⟨?_, hw.nil⟩)
                rw [lErr_two (by omega) h6a hjl (by omega)]
              · refine GE_skip ?_;refine GE_inBlock ?_;refine GE_slots (L' := [(0, _), (4, _)]) ⟨rfl, rfl, trivial⟩ ?_;refine GE_plain (.st 0 (.st 1 (.ld 2 [] .nil))) rfl ?_;refine GT_st rfl rfl rfl rfl (V_move rfl rfl) ?_;refine GT_st rfl rfl rfl rfl (V_add rfl rfl rfl (wrap_i64 (by omega))) ?_;refine GT_ldv rfl rfl rfl rfl rfl (V_assign rfl rfl) (GR_nil) ?_;refine GT_nil ?_
                exact GE_to (ih2 (j + 1) ⟨by omega, fun i hi => by rcases Nat.lt_or_ge i j with r | r; exact h0 i r; rw [show i = j by omega]; omega⟩ (by omega)) ⟨rfl, rfl, trivial⟩ HS.nil
            · have h0a : ∀ i, i < l.length → tErr (l.getD i default) = 0 := (fun i hi => h0 i (by omega)); have hlr := lErr_rest (by omega) h0a
              refine GE_exit rfl ?_;refine GE_seq ?_;refine GE_seq ?_;refine GE_slots (L' := [(0, _)]) ⟨rfl, trivial⟩ ?_;refine GE_plain (.st 0 .nil) rfl ?_;refine GT_st rfl rfl rfl rfl (V_assign rfl rfl) ?_;refine GT_nil ?_;refine GE_block ?_;refine GE_to (GE_loop (ι := Nat) (fun a => l.length - a) (fun a => [(0, .slice A l.length c), (5, I a)]) (fun a => []) (fun a => a ≤ l.length ∧ ∀ i j, i < a → j < i → (l.getD i default).name ≠ (l.getD j default).name) ?_ 0 ?_) ⟨rfl, rfl, trivial⟩ HS.nil
              · rintro a ⟨ha, hap⟩ ih3
                refine GE_seq ?_;refine GE_seq ?_;refine GE_plain (.st 0 (.st 1 (.st 2 (.st 3 .nil)))) rfl ?_;refine GT_st rfl rfl rfl rfl (V_move rfl rfl) ?_;refine GT_st rfl rfl rfl rfl (V_move rfl rfl) ?_;refine GT_st rfl rfl rfl rfl (V_len rfl Tryz.underlying107 rfl) ?_;refine GT_st rfl rfl rfl rfl (V_lss rfl rfl rfl) ?_;refine GT_nil ?_;refine GE_cond rfl (fun q6 => ?_) (fun q6 => ?_)
                · have hal : a < l.length := (by omega)
                  refine GE_skip ?_;refine GE_seq ?_;refine GE_block ?_;refine GE_seq ?_;refine GE_slots (L' := [(0, _), (5, _)]) ⟨rfl, rfl, trivial⟩ ?_;refine GE_plain (.st 0 .nil) rfl ?_;refine GT_st rfl rfl rfl rfl (V_assign rfl rfl) ?_;refine GT_nil ?_;refine GE_block ?_;refine GE_to (GE_loop (ι := Nat) (fun b => a - b) (fun b => [(0, .slice A l.length c), (5, I a), (6, I b)]) (fun b => []) (fun b => b ≤ a ∧ ∀ j, j < b → (l.getD a default).name ≠ (l.getD j default).name) ?_ 0 ?_) ⟨rfl, rfl, rfl, trivial⟩ HS.nil
                  · rintro b ⟨hb, hbp⟩ ih4
                    refine GE_seq ?_;refine GE_seq ?_;refine GE_plain (.st 0 (.st 1 (.st 2 .nil))) rfl ?_;refine GT_st rfl rfl rfl rfl (V_move rfl rfl) ?_;refine GT_st rfl rfl rfl rfl (V_move rfl rfl) ?_;refine GT_st rfl rfl rfl rfl (V_lss rfl rfl rfl) ?_;refine GT_nil ?_;refine GE_cond rfl (fun q7 => ?_) (fun q7 => ?_)
                    · have hbl : b < l.length := (by omega)
                      refine GE_skip ?_;refine GE_seq ?_;refine GE_block ?_;refine GE_seq ?_;refine GE_drawn (.st 0 (.st 1 (.st 2 (.st 3 (.st 4 (.st 5 (.st 6 (.st 7 (.st 8 (.st 9 (.st 10 .nil))))))))))) [] (by decide +kernel) ?_;refine GT_st rfl rfl rfl rfl (V_move rfl rfl) ?_;refine GT_st rfl rfl rfl rfl (V_move rfl rfl) ?_;refine GT_st rfl rfl rfl rfl (V_index rfl rfl rfl Tryz.underlying107 sz_230 (k := a) rfl hal (h.1.isSome hal)) ?_;refine GT_st rfl rfl rfl rfl (V_fieldA rfl rfl fo_230_0) ?_;refine GT_st rfl rfl rfl rfl (V_load rfl rfl ag_9 (h.1.at0 noM hal rfl)) ?_;refine GT_st rfl rfl rfl rfl (V_move rfl rfl) ?_;refine GT_st rfl rfl rfl rfl (V_move rfl rfl) ?_;refine GT_st rfl rfl rfl rfl (V_index rfl rfl rfl Tryz.underlying107 sz_230 (k := b) rfl hbl (h.1.isSome hbl)) ?_;refine GT_st rfl rfl rfl rfl (V_fieldA rfl rfl fo_230_0) ?_;refine GT_st rfl rfl rfl rfl (V_load rfl rfl ag_9 (h.1.at0 noM hbl rfl)) ?_;refine GT_st rfl rfl rfl rfl (V_eqlStr rfl rfl rfl) ?_;refine GT_nil ?_;refine GE_cond rfl (fun q8 => ?_) (fun q8 => ?_)
                      · refine GE_seq ?_;refine GE_slots (L' := []) trivial ?_;refine GE_plain (.st 0 .nil) rfl ?_;refine GT_st rfl rfl rfl rfl (V_assign rfl rfl) ?_;refine GT_nil ?_;refine GE_ret Tryz.func91 rfl (fun w hw => ⟨?_, hw.nil⟩)
                        rw [hlr, if_neg (names_same hal (by omega) q8)]
                      · refine GE_skip ?_;refine GE_inBlock ?_;refine GE_slots (L' := [(0, _), (5, _), (6, _)]) ⟨rfl, rfl, rfl, trivial⟩ ?_;refine GE_plain (.st 0 (.st 1 (.ld 2 [] .nil))) rfl ?_;refine GT_st rfl rfl rfl rfl (V_move rfl rfl) ?_;refine GT_st rfl rfl rfl rfl (V_add rfl rfl rfl (wrap_i64 (by omega))) ?_;refine GT_ldv rfl rfl rfl rfl rfl (V_assign rfl rfl) (GR_nil) ?_;refine GT_nil ?_
                        exact GE_to (ih4 (b + 1) ⟨by omega, fun j hj => by rcases Nat.lt_or_ge j b with r | r; exact hbp j r; obtain rfl : j = b := (by omega); exact q8⟩ (by omega)) ⟨rfl, rfl, rfl, trivial⟩ HS.nil
                    · refine GE_exit rfl ?_;refine GE_inBlock ?_;refine GE_slots (L' := [(0, _), (5, _)]) ⟨rfl, rfl, trivial⟩ ?_;refine GE_plain (.st 0 (.st 1 (.ld 2 [] .nil))) rfl ?_;refine GT_st rfl rfl rfl rfl (V_move rfl rfl) ?_;refine GT_st rfl rfl rfl rfl (V_add rfl rfl rfl (wrap_i64 (by omega))) ?_;refine GT_ldv rfl rfl rfl rfl rfl (V_assign rfl rfl) (GR_nil) ?_;refine GT_nil ?_
                      exact GE_to (ih3 (a + 1) ⟨by omega, fun i j hi hj => by rcases Nat.lt_or_ge i a with r | r; exact hap i j r hj; obtain rfl : i = a := (by omega); exact hbp j (by omega)⟩ (by omega)) ⟨rfl, rfl, trivial⟩ HS.nil
                  · exact ⟨Nat.zero_le _, fun j hi => absurd hi (Nat.not_lt_zero _)⟩
                · refine GE_exit rfl ?_;refine GE_seq ?_;refine GE_slots (L' := []) trivial ?_;refine GE_plain (.st 0 .nil) rfl ?_;refine GT_st rfl rfl rfl rfl (V_assign rfl rfl) ?_;refine GT_nil ?_;refine GE_ret Tryz.func91 rfl (fun w hw => ⟨?_, hw.nil⟩)
                  rw [hlr, if_pos (names_apart (fun i j hi hj => hap i j (by omega) hj))]
              · exact ⟨Nat.zero_le _, fun i j hi => absurd hi (Nat.not_lt_zero _)⟩
          · exact ⟨Nat.zero_le _, fun i hi => absurd hi (Nat.not_lt_zero _)⟩
      · exact ⟨Nat.zero_le _, fun i hi => absurd hi (Nat.not_lt_zero _)⟩
set_option maxRecDepth 10000 in
theorem C_rpart {l : List Tk} {x : Prt} (h : Tks w A l) : Con0 Tryz.prog 92 [.slice A l.length c, .agg #[I x.tk, I x.fr, I x.to, I x.gap, I x.inn, I x.out, I x.lev]] w (.bool (goodP l x)) := by
  have hd : ∀ q : Bool, (((0 ≤ x.tk ∧ x.tk < (l.length : Int)) ∧ 0 ≤ x.fr ∧ x.fr < x.to ∧ x.to ≤ ((tkOf l x).data.length : Int) ∧ (-4096 ≤ x.gap ∧ x.gap ≤ 4096) ∧ (0 ≤ x.inn ∧ x.inn ≤ 1000) ∧ (0 ≤ x.out ∧ x.out ≤ 1000) ∧ (0 ≤ x.lev ∧ x.lev ≤ 4000)) ↔ q = true) → Value.bool q = Value.bool (goodP l x) := fun q hq => congrArg Value.bool (by rw [Bool.eq_iff_iff, ← hq, goodP]; simp only [Bool.and_eq_true, decide_eq_true_iff, betw_iff]; simp only [and_assoc])
  have dT : ∀ {q : Prop} [Decidable q], ∀ r : Prop, (r ↔ q) → (r ↔ decide q = true) := fun r e => by rw [decide_eq_true_iff]; exact e
  have dF : ∀ r : Prop, ¬ r → (r ↔ false = true) := fun r e => ⟨fun x => absurd x e, fun x => by cases x⟩
  have h1000 : ∀ {z : Int}, z = z := rfl
  refine Ret_of (vs := [_, _]) hm none' Tryz.func92 rfl Tryz.ntmps92 rfl ?_
  dsimp only [slotsOf]
  refine GE_seq ?_;refine GE_plain (.ld 0 [] (.st 1 .nil)) rfl ?_;refine GT_box (z := [_, _, _, _, _, _, _]) rfl rfl rfl rfl rfl rfl rfl (fun _ => GR_nil) (fun b3 => ?_)
  refine GT_st rfl rfl rfl rfl (V_assign rfl rfl) ?_;refine GT_nil ?_;refine GE_seq ?_;refine GE_seq ?_;refine GE_drawn (.st 0 (.st 1 (.st 2 (.st 3 (.st 4 (.st 5 (.st 6 (.st 7 (.st 8 (.st 9 (.st 10 (.st 11 (.st 12 (.st 13 (.st 14 (.st 15 (.st 16 (.st 17 (.st 18 (.st 19 (.st 20 (.st 21 (.st 22 (.st 23 (.st 24 (.st 25 (.st 26 (.st 27 (.st 28 (.st 29 (.st 30 (.st 31 (.st 32 (.st 33 (.st 34 (.st 35 (.st 36 (.st 37 (.st 38 (.st 39 (.st 40 (.st 41 (.st 42 (.st 43 .nil)))))))))))))))))))))))))))))))))))))))))))) [] (by decide +kernel) ?_;refine GT_st rfl rfl rfl rfl (V_field rfl rfl fo_124_0) ?_;refine GT_st rfl rfl rfl rfl (V_load rfl rfl ag_3 (CellAt.item rfl)) ?_;refine GT_st rfl rfl rfl rfl (V_lss rfl rfl rfl) ?_;refine GT_st rfl rfl rfl rfl (V_move rfl rfl) ?_;refine GT_split (d := 8) rfl (fun q1 => ?_) (fun q1 => ?_)
  · refine GT_skip rfl rfl rfl rfl rfl (by decide) rfl rfl ?_;refine GT_skip rfl rfl rfl rfl rfl (by decide) rfl rfl ?_;refine GT_skip rfl rfl rfl rfl rfl (by decide) rfl rfl ?_;refine GT_skip rfl rfl rfl rfl rfl (by decide) rfl rfl ?_;refine GT_skip rfl rfl rfl rfl rfl (by decide) rfl rfl ?_;refine GT_st rfl rfl rfl rfl (V_pick_t rfl rfl rfl) ?_;refine GT_st rfl rfl rfl rfl (V_move rfl rfl) ?_;refine GT_skip rfl rfl rfl rfl rfl (by decide) rfl rfl ?_;refine GT_skip rfl rfl rfl rfl rfl (by decide) rfl rfl ?_;refine GT_skip rfl rfl rfl rfl rfl (by decide) rfl rfl ?_;refine GT_st rfl rfl rfl rfl (V_pick_t rfl rfl rfl) ?_;refine GT_st rfl rfl rfl rfl (V_move rfl rfl) ?_;refine GT_skip rfl rfl rfl rfl rfl (by decide) rfl rfl ?_;refine GT_skip rfl rfl rfl rfl rfl (by decide) rfl rfl ?_;refine GT_skip rfl rfl rfl rfl rfl (by decide) rfl rfl ?_;refine GT_skip rfl rfl rfl rfl rfl (by decide) rfl rfl ?_;refine GT_skip rfl rfl rfl rfl rfl (by decide) rfl rfl ?_;refine GT_st rfl rfl rfl rfl (V_pick_t rfl rfl rfl) ?_;refine GT_st rfl rfl rfl rfl (V_move rfl rfl) ?_;refine GT_skip rfl rfl rfl rfl rfl (by decide) rfl rfl ?_;refine GT_skip rfl rfl rfl rfl rfl (by decide) rfl rfl ?_;refine GT_skip rfl rfl rfl rfl rfl (by decide) rfl rfl ?_;refine GT_skip rfl rfl rfl rfl rfl (by decide) rfl rfl ?_;refine GT_skip rfl rfl rfl rfl rfl (by decide) rfl rfl ?_;refine GT_skip rfl rfl rfl rfl rfl (by decide) rfl rfl ?_;refine GT_skip rfl rfl rfl rfl rfl (by decide) rfl rfl ?_;refine GT_skip rfl rfl rfl rfl rfl (by decide) rfl rfl ?_;refine GT_skip rfl rfl rfl rfl rfl (by decide) rfl rfl ?_;refine GT_skip rfl rfl rfl rfl rfl (by decide) rfl rfl ?_;refine GT_st rfl rfl rfl rfl (V_pick_t rfl rfl rfl) ?_;refine GT_st rfl rfl rfl rfl (V_move rfl rfl) ?_
    refine GT_skip rfl rfl rfl rfl rfl (by decide) rfl rfl ?_;refine GT_skip rfl rfl rfl rfl rfl (by decide) rfl rfl ?_;refine GT_skip rfl rfl rfl rfl rfl (by decide) rfl rfl ?_;refine GT_st rfl rfl rfl rfl (V_pick_t rfl rfl rfl) ?_;refine GT_st rfl rfl rfl rfl (V_move rfl rfl) ?_;refine GT_skip rfl rfl rfl rfl rfl (by decide) rfl rfl ?_;refine GT_skip rfl rfl rfl rfl rfl (by decide) rfl rfl ?_;refine GT_skip rfl rfl rfl rfl rfl (by decide) rfl rfl ?_;refine GT_st rfl rfl rfl rfl (V_pick_t rfl rfl rfl) ?_;refine GT_nil ?_;refine GE_cond_t rfl ?_;refine GE_seq ?_;refine GE_slots (L' := []) trivial ?_;refine GE_plain (.st 0 .nil) rfl ?_;refine GT_st rfl rfl rfl rfl (V_assign rfl rfl) ?_;refine GT_nil ?_;refine GE_ret Tryz.func92 rfl (fun w hw => ⟨?_, hw.nil⟩)
    refine hd _ ?_; first | exact dF _ (fun e => by omega) | exact dF _ (fun e => by have := e.2.2.2.1; unfold tkOf at this; omega) | exact dT _ ⟨fun e => by omega, fun e => by refine ⟨⟨?_, ?_⟩, ?_, ?_, ?_, ⟨?_, ?_⟩, ⟨?_, ?_⟩, ⟨?_, ?_⟩, ?_, ?_⟩ <;> omega⟩
  · refine GT_st_g rfl rfl rfl rfl rfl rfl rfl (V_field rfl rfl fo_124_0) ?_;refine GT_st_g rfl rfl rfl rfl rfl rfl rfl (V_load rfl rfl ag_3 (CellAt.item rfl)) ?_;refine GT_st_g rfl rfl rfl rfl rfl rfl rfl (V_move rfl rfl) ?_;refine GT_st_g rfl rfl rfl rfl rfl rfl rfl (V_len rfl Tryz.underlying107 rfl) ?_;refine GT_st_g rfl rfl rfl rfl rfl rfl rfl (V_geq rfl rfl rfl) ?_;refine GT_st rfl rfl rfl rfl (V_pick_f rfl rfl rfl) ?_;refine GT_st rfl rfl rfl rfl (V_move rfl rfl) ?_;refine GT_split (d := 15) rfl (fun q2 => ?_) (fun q2 => ?_)
    · refine GT_skip rfl rfl rfl rfl rfl (by decide) rfl rfl ?_;refine GT_skip rfl rfl rfl rfl rfl (by decide) rfl rfl ?_;refine GT_skip rfl rfl rfl rfl rfl (by decide) rfl rfl ?_;refine GT_st rfl rfl rfl rfl (V_pick_t rfl rfl rfl) ?_;refine GT_st rfl rfl rfl rfl (V_move rfl rfl) ?_;refine GT_skip rfl rfl rfl rfl rfl (by decide) rfl rfl ?_;refine GT_skip rfl rfl rfl rfl rfl (by decide) rfl rfl ?_;refine GT_skip rfl rfl rfl rfl rfl (by decide) rfl rfl ?_;refine GT_skip rfl rfl rfl rfl rfl (by decide) rfl rfl ?_;refine GT_skip rfl rfl rfl rfl rfl (by decide) rfl rfl ?_;refine GT_st rfl rfl rfl rfl (V_pick_t rfl rfl rfl) ?_;refine GT_st rfl rfl rfl rfl (V_move rfl rfl) ?_;refine GT_skip rfl rfl rfl rfl rfl (by decide) rfl rfl ?_;refine GT_skip rfl rfl rfl rfl rfl (by decide) rfl rfl ?_;refine GT_skip rfl rfl rfl rfl rfl (by decide) rfl rfl ?_;refine GT_skip rfl rfl rfl rfl rfl (by decide) rfl rfl ?_;refine GT_skip rfl rfl rfl rfl rfl (by decide) rfl rfl ?_;refine GT_skip rfl rfl rfl rfl rfl (by decide) rfl rfl ?_;refine GT_skip rfl rfl rfl rfl rfl (by decide) rfl rfl ?_;refine GT_skip rfl rfl rfl rfl rfl (by decide) rfl rfl ?_;refine GT_skip rfl rfl rfl rfl rfl (by decide) rfl rfl ?_;refine GT_skip rfl rfl rfl rfl rfl (by decide) rfl rfl ?_;refine GT_st rfl rfl rfl rfl (V_pick_t rfl rfl rfl) ?_;refine GT_st rfl rfl rfl rfl (V_move rfl rfl) ?_;refine GT_skip rfl rfl rfl rfl rfl (by decide) rfl rfl ?_;refine GT_skip rfl rfl rfl rfl rfl (by decide) rfl rfl ?_;refine GT_skip rfl rfl rfl rfl rfl (by decide) rfl rfl ?_;refine GT_st rfl rfl rfl rfl (V_pick_t rfl rfl rfl) ?_;refine GT_st rfl rfl rfl rfl (V_move rfl rfl) ?_;refine GT_skip rfl rfl rfl rfl rfl (by decide) rfl rfl ?_;refine GT_skip rfl rfl rfl rfl rfl (by decide) rfl rfl ?_
      refine GT_skip rfl rfl rfl rfl rfl (by decide) rfl rfl ?_;refine GT_st rfl rfl rfl rfl (V_pick_t rfl rfl rfl) ?_;refine GT_nil ?_;refine GE_cond_t rfl ?_;refine GE_seq ?_;refine GE_slots (L' := []) trivial ?_;refine GE_plain (.st 0 .nil) rfl ?_;refine GT_st rfl rfl rfl rfl (V_assign rfl rfl) ?_;refine GT_nil ?_;refine GE_ret Tryz.func92 rfl (fun w hw => ⟨?_, hw.nil⟩)
      refine hd _ ?_; first | exact dF _ (fun e => by omega) | exact dF _ (fun e => by have := e.2.2.2.1; unfold tkOf at this; omega) | exact dT _ ⟨fun e => by omega, fun e => by refine ⟨⟨?_, ?_⟩, ?_, ?_, ?_, ⟨?_, ?_⟩, ⟨?_, ?_⟩, ⟨?_, ?_⟩, ?_, ?_⟩ <;> omega⟩
    · refine GT_st_g rfl rfl rfl rfl rfl rfl rfl (V_field rfl rfl fo_124_1) ?_;refine GT_st_g rfl rfl rfl rfl rfl rfl rfl (V_load rfl rfl ag_3 (CellAt.item rfl)) ?_;refine GT_st_g rfl rfl rfl rfl rfl rfl rfl (V_lss rfl rfl rfl) ?_;refine GT_st rfl rfl rfl rfl (V_pick_f rfl rfl rfl) ?_;refine GT_st rfl rfl rfl rfl (V_move rfl rfl) ?_;refine GT_split (d := 20) rfl (fun q3 => ?_) (fun q3 => ?_)
      · refine GT_skip rfl rfl rfl rfl rfl (by decide) rfl rfl ?_;refine GT_skip rfl rfl rfl rfl rfl (by decide) rfl rfl ?_;refine GT_skip rfl rfl rfl rfl rfl (by decide) rfl rfl ?_;refine GT_skip rfl rfl rfl rfl rfl (by decide) rfl rfl ?_;refine GT_skip rfl rfl rfl rfl rfl (by decide) rfl rfl ?_;refine GT_st rfl rfl rfl rfl (V_pick_t rfl rfl rfl) ?_;refine GT_st rfl rfl rfl rfl (V_move rfl rfl) ?_;refine GT_skip rfl rfl rfl rfl rfl (by decide) rfl rfl ?_;refine GT_skip rfl rfl rfl rfl rfl (by decide) rfl rfl ?_;refine GT_skip rfl rfl rfl rfl rfl (by decide) rfl rfl ?_;refine GT_skip rfl rfl rfl rfl rfl (by decide) rfl rfl ?_;refine GT_skip rfl rfl rfl rfl rfl (by decide) rfl rfl ?_;refine GT_skip rfl rfl rfl rfl rfl (by decide) rfl rfl ?_;refine GT_skip rfl rfl rfl rfl rfl (by decide) rfl rfl ?_;refine GT_skip rfl rfl rfl rfl rfl (by decide) rfl rfl ?_;refine GT_skip rfl rfl rfl rfl rfl (by decide) rfl rfl ?_;refine GT_skip rfl rfl rfl rfl rfl (by decide) rfl rfl ?_;refine GT_st rfl rfl rfl rfl (V_pick_t rfl rfl rfl) ?_;refine GT_st rfl rfl rfl rfl (V_move rfl rfl) ?_;refine GT_skip rfl rfl rfl rfl rfl (by decide) rfl rfl ?_;refine GT_skip rfl rfl rfl rfl rfl (by decide) rfl rfl ?_;refine GT_skip rfl rfl rfl rfl rfl (by decide) rfl rfl ?_;refine GT_st rfl rfl rfl rfl (V_pick_t rfl rfl rfl) ?_;refine GT_st rfl rfl rfl rfl (V_move rfl rfl) ?_;refine GT_skip rfl rfl rfl rfl rfl (by decide) rfl rfl ?_;refine GT_skip rfl rfl rfl rfl rfl (by decide) rfl rfl ?_;refine GT_skip rfl rfl rfl rfl rfl (by decide) rfl rfl ?_;refine GT_st rfl rfl rfl rfl (V_pick_t rfl rfl rfl) ?_;refine GT_nil ?_;refine GE_cond_t rfl ?_;refine GE_seq ?_;refine GE_slots (L' := []) trivial ?_;refine GE_plain (.st 0 .nil) rfl ?_;refine GT_st rfl rfl rfl rfl (V_assign rfl rfl) ?_;refine GT_nil ?_
        refine GE_ret Tryz.func92 rfl (fun w hw => ⟨?_, hw.nil⟩)
        refine hd _ ?_; first | exact dF _ (fun e => by omega) | exact dF _ (fun e => by have := e.2.2.2.1; unfold tkOf at this; omega) | exact dT _ ⟨fun e => by omega, fun e => by refine ⟨⟨?_, ?_⟩, ?_, ?_, ?_, ⟨?_, ?_⟩, ⟨?_, ?_⟩, ⟨?_, ?_⟩, ?_, ?_⟩ <;> omega⟩
      · refine GT_st_g rfl rfl rfl rfl rfl rfl rfl (V_field rfl rfl fo_124_1) ?_;refine GT_st_g rfl rfl rfl rfl rfl rfl rfl (V_load rfl rfl ag_3 (CellAt.item rfl)) ?_;refine GT_st_g rfl rfl rfl rfl rfl rfl rfl (V_field rfl rfl fo_124_2) ?_;refine GT_st_g rfl rfl rfl rfl rfl rfl rfl (V_load rfl rfl ag_3 (CellAt.item rfl)) ?_;refine GT_st_g rfl rfl rfl rfl rfl rfl rfl (V_geq rfl rfl rfl) ?_;refine GT_st rfl rfl rfl rfl (V_pick_f rfl rfl rfl) ?_;refine GT_st rfl rfl rfl rfl (V_move rfl rfl) ?_;refine GT_split (d := 27) rfl (fun q4 => ?_) (fun q4 => ?_)
        · refine GT_skip rfl rfl rfl rfl rfl (by decide) rfl rfl ?_;refine GT_skip rfl rfl rfl rfl rfl (by decide) rfl rfl ?_;refine GT_skip rfl rfl rfl rfl rfl (by decide) rfl rfl ?_;refine GT_skip rfl rfl rfl rfl rfl (by decide) rfl rfl ?_;refine GT_skip rfl rfl rfl rfl rfl (by decide) rfl rfl ?_;refine GT_skip rfl rfl rfl rfl rfl (by decide) rfl rfl ?_;refine GT_skip rfl rfl rfl rfl rfl (by decide) rfl rfl ?_;refine GT_skip rfl rfl rfl rfl rfl (by decide) rfl rfl ?_;refine GT_skip rfl rfl rfl rfl rfl (by decide) rfl rfl ?_;refine GT_skip rfl rfl rfl rfl rfl (by decide) rfl rfl ?_;refine GT_st rfl rfl rfl rfl (V_pick_t rfl rfl rfl) ?_;refine GT_st rfl rfl rfl rfl (V_move rfl rfl) ?_;refine GT_skip rfl rfl rfl rfl rfl (by decide) rfl rfl ?_;refine GT_skip rfl rfl rfl rfl rfl (by decide) rfl rfl ?_;refine GT_skip rfl rfl rfl rfl rfl (by decide) rfl rfl ?_;refine GT_st rfl rfl rfl rfl (V_pick_t rfl rfl rfl) ?_;refine GT_st rfl rfl rfl rfl (V_move rfl rfl) ?_;refine GT_skip rfl rfl rfl rfl rfl (by decide) rfl rfl ?_;refine GT_skip rfl rfl rfl rfl rfl (by decide) rfl rfl ?_;refine GT_skip rfl rfl rfl rfl rfl (by decide) rfl rfl ?_;refine GT_st rfl rfl rfl rfl (V_pick_t rfl rfl rfl) ?_;refine GT_nil ?_;refine GE_cond_t rfl ?_;refine GE_seq ?_;refine GE_slots (L' := []) trivial ?_;refine GE_plain (.st 0 .nil) rfl ?_;refine GT_st rfl rfl rfl rfl (V_assign rfl rfl) ?_;refine GT_nil ?_;refine GE_ret Tryz.func92 rfl (fun w hw => ⟨?_, hw.nil⟩)
          refine hd _ ?_; first | exact dF _ (fun e => by omega) | exact dF _ (fun e => by have := e.2.2.2.1; unfold tkOf at this; omega) | exact dT _ ⟨fun e => by omega, fun e => by refine ⟨⟨?_, ?_⟩, ?_, ?_, ?_, ⟨?_, ?_⟩, ⟨?_, ?_⟩, ⟨?_, ?_⟩, ?_, ?_⟩ <;> omega⟩
        · have hk : x.tk.toNat < l.length := (by omega)
          refine GT_st_g rfl rfl rfl rfl rfl rfl rfl (V_field rfl rfl fo_124_2) ?_;refine GT_st_g rfl rfl rfl rfl rfl rfl rfl (V_load rfl rfl ag_3 (CellAt.item rfl)) ?_;refine GT_st_g rfl rfl rfl rfl rfl rfl rfl (V_move rfl rfl) ?_;refine GT_st_g rfl rfl rfl rfl rfl rfl rfl (V_field rfl rfl fo_124_0) ?_;refine GT_st_g rfl rfl rfl rfl rfl rfl rfl (V_load rfl rfl ag_3 (CellAt.item rfl)) ?_;refine GT_st_g rfl rfl rfl rfl rfl rfl rfl (V_index rfl rfl rfl Tryz.underlying107 sz_230 (k := x.tk.toNat) (by omega) hk (h.1.isSome hk)) ?_;refine GT_st_g rfl rfl rfl rfl rfl rfl rfl (V_fieldA rfl rfl fo_230_1) ?_;refine GT_st_g rfl rfl rfl rfl rfl rfl rfl (V_load rfl rfl ag_228 (h.1.at1 noM hk rfl)) ?_;refine GT_st_g rfl rfl rfl rfl rfl rfl rfl (V_len rfl Tryz.underlying228 rfl) ?_;refine GT_st_g rfl rfl rfl rfl rfl rfl rfl (V_gtr rfl rfl rfl) ?_;refine GT_st rfl rfl rfl rfl (V_pick_f rfl rfl rfl) ?_;refine GT_st rfl rfl rfl rfl (V_move rfl rfl) ?_;refine GT_split (d := 39) rfl (fun q5 => ?_) (fun q5 => ?_)
          · refine GT_skip rfl rfl rfl rfl rfl (by decide) rfl rfl ?_;refine GT_skip rfl rfl rfl rfl rfl (by decide) rfl rfl ?_;refine GT_skip rfl rfl rfl rfl rfl (by decide) rfl rfl ?_;refine GT_st rfl rfl rfl rfl (V_pick_t rfl rfl rfl) ?_;refine GT_st rfl rfl rfl rfl (V_move rfl rfl) ?_;refine GT_skip rfl rfl rfl rfl rfl (by decide) rfl rfl ?_;refine GT_skip rfl rfl rfl rfl rfl (by decide) rfl rfl ?_;refine GT_skip rfl rfl rfl rfl rfl (by decide) rfl rfl ?_;refine GT_st rfl rfl rfl rfl (V_pick_t rfl rfl rfl) ?_;refine GT_nil ?_;refine GE_cond_t rfl ?_;refine GE_seq ?_;refine GE_slots (L' := []) trivial ?_;refine GE_plain (.st 0 .nil) rfl ?_;refine GT_st rfl rfl rfl rfl (V_assign rfl rfl) ?_;refine GT_nil ?_;refine GE_ret Tryz.func92 rfl (fun w hw => ⟨?_, hw.nil⟩)
            refine hd _ ?_; first | exact dF _ (fun e => by omega) | exact dF _ (fun e => by have := e.2.2.2.1; unfold tkOf at this; omega) | exact dT _ ⟨fun e => by omega, fun e => by refine ⟨⟨?_, ?_⟩, ?_, ?_, ?_, ⟨?_, ?_⟩, ⟨?_, ?_⟩, ⟨?_, ?_⟩, ?_, ?_⟩ <;> omega⟩
          · refine GT_st_g rfl rfl rfl rfl rfl rfl rfl (V_field rfl rfl fo_124_3) ?_;refine GT_st_g rfl rfl rfl rfl rfl rfl rfl (V_load rfl rfl ag_3 (CellAt.item rfl)) ?_;refine GT_st_g rfl rfl rfl rfl rfl rfl rfl (V_lss rfl rfl rfl) ?_;refine GT_st rfl rfl rfl rfl (V_pick_f rfl rfl rfl) ?_;refine GT_st rfl rfl rfl rfl (V_move rfl rfl) ?_;refine GT_split (d := 44) rfl (fun q6 => ?_) (fun q6 => ?_)
            · refine GT_skip rfl rfl rfl rfl rfl (by decide) rfl rfl ?_;refine GT_skip rfl rfl rfl rfl rfl (by decide) rfl rfl ?_;refine GT_skip rfl rfl rfl rfl rfl (by decide) rfl rfl ?_;refine GT_st rfl rfl rfl rfl (V_pick_t rfl rfl rfl) ?_;refine GT_nil ?_;refine GE_cond_t rfl ?_;refine GE_seq ?_;refine GE_slots (L' := []) trivial ?_;refine GE_plain (.st 0 .nil) rfl ?_;refine GT_st rfl rfl rfl rfl (V_assign rfl rfl) ?_;refine GT_nil ?_;refine GE_ret Tryz.func92 rfl (fun w hw => ⟨?_, hw.nil⟩)
              refine hd _ ?_; first | exact dF _ (fun e => by omega) | exact dF _ (fun e => by have := e.2.2.2.1; unfold tkOf at this; omega) | exact dT _ ⟨fun e => by omega, fun e => by refine ⟨⟨?_, ?_⟩, ?_, ?_, ?_, ⟨?_, ?_⟩, ⟨?_, ?_⟩, ⟨?_, ?_⟩, ?_, ?_⟩ <;> omega⟩
            · refine GT_st_g rfl rfl rfl rfl rfl rfl rfl (V_field rfl rfl fo_124_3) ?_;refine GT_st_g rfl rfl rfl rfl rfl rfl rfl (V_load rfl rfl ag_3 (CellAt.item rfl)) ?_;refine GT_st_g rfl rfl rfl rfl rfl rfl rfl (V_gtr rfl rfl rfl) ?_;refine GT_st rfl rfl rfl rfl (V_pick_f rfl rfl rfl) ?_;refine GT_nil ?_;refine GE_cond rfl (fun q7 => ?_) (fun q7 => ?_)
              · refine GE_seq ?_;refine GE_slots (L' := []) trivial ?_;refine GE_plain (.st 0 .nil) rfl ?_;refine GT_st rfl rfl rfl rfl (V_assign rfl rfl) ?_;refine GT_nil ?_;refine GE_ret Tryz.func92 rfl (fun w hw => ⟨?_, hw.nil⟩)
                refine hd _ ?_; first | exact dF _ (fun e => by omega) | exact dF _ (fun e => by have := e.2.2.2.1; unfold tkOf at this; omega) | exact dT _ ⟨fun e => by omega, fun e => by refine ⟨⟨?_, ?_⟩, ?_, ?_, ?_, ⟨?_, ?_⟩, ⟨?_, ?_⟩, ⟨?_, ?_⟩, ?_, ?_⟩ <;> omega⟩
              · have htk : x.to ≤ ((tkOf l x).data.length : Int) := (by unfold tkOf; omega)
                refine GE_skip ?_;refine GE_seq ?_;refine GE_slots (L' := [(3, _)]) ⟨rfl, trivial⟩ ?_;refine GE_plain (.st 0 (.st 1 (.st 2 (.st 3 (.st 4 (.st 5 (.st 6 (.st 7 (.st 8 (.st 9 (.st 10 (.st 11 (.st 12 (.st 13 (.st 14 (.st 15 (.st 16 (.st 17 (.st 18 (.st 19 (.st 20 (.st 21 (.st 22 (.st 23 (.st 24 (.st 25 (.st 26 (.st 27 (.st 28 .nil))))))))))))))))))))))))))))) rfl ?_;refine GT_st rfl rfl rfl rfl (V_field rfl rfl fo_124_4) ?_;refine GT_st rfl rfl rfl rfl (V_load rfl rfl ag_3 (CellAt.item rfl)) ?_;refine GT_st rfl rfl rfl rfl (V_geq rfl rfl rfl) ?_;refine GT_st rfl rfl rfl rfl (V_move rfl rfl) ?_;refine GT_split (d := 52) rfl (fun q8 => ?_) (fun q8 => ?_)
                · refine GT_st_g rfl rfl rfl rfl rfl rfl rfl (V_field rfl rfl fo_124_4) ?_;refine GT_st_g rfl rfl rfl rfl rfl rfl rfl (V_load rfl rfl ag_3 (CellAt.item rfl)) ?_;refine GT_st_g rfl rfl rfl rfl rfl rfl rfl (V_leq rfl rfl rfl) ?_;refine GT_st rfl rfl rfl rfl (V_pick_t rfl rfl rfl) ?_;refine GT_st rfl rfl rfl rfl (V_move rfl rfl) ?_;refine GT_split (d := 57) rfl (fun q9 => ?_) (fun q9 => ?_)
                  · refine GT_st_g rfl rfl rfl rfl rfl rfl rfl (V_field rfl rfl fo_124_5) ?_;refine GT_st_g rfl rfl rfl rfl rfl rfl rfl (V_load rfl rfl ag_3 (CellAt.item rfl)) ?_;refine GT_st_g rfl rfl rfl rfl rfl rfl rfl (V_geq rfl rfl rfl) ?_;refine GT_st rfl rfl rfl rfl (V_pick_t rfl rfl rfl) ?_;refine GT_st rfl rfl rfl rfl (V_move rfl rfl) ?_;refine GT_split (d := 62) rfl (fun q10 => ?_) (fun q10 => ?_)
                    · refine GT_st_g rfl rfl rfl rfl rfl rfl rfl (V_field rfl rfl fo_124_5) ?_;refine GT_st_g rfl rfl rfl rfl rfl rfl rfl (V_load rfl rfl ag_3 (CellAt.item rfl)) ?_;refine GT_st_g rfl rfl rfl rfl rfl rfl rfl (V_leq rfl rfl rfl) ?_;refine GT_st rfl rfl rfl rfl (V_pick_t rfl rfl rfl) ?_;refine GT_st rfl rfl rfl rfl (V_move rfl rfl) ?_;refine GT_split (d := 67) rfl (fun q11 => ?_) (fun q11 => ?_)
                      · refine GT_st_g rfl rfl rfl rfl rfl rfl rfl (V_field rfl rfl fo_124_6) ?_;refine GT_st_g rfl rfl rfl rfl rfl rfl rfl (V_load rfl rfl ag_2 (CellAt.item rfl)) ?_;refine GT_st_g rfl rfl rfl rfl rfl rfl rfl (V_geq rfl rfl rfl) ?_;refine GT_st rfl rfl rfl rfl (V_pick_t rfl rfl rfl) ?_;refine GT_st rfl rfl rfl rfl (V_move rfl rfl) ?_;refine GT_split (d := 72) rfl (fun q12 => ?_) (fun q12 => ?_)
                        · refine GT_st_g rfl rfl rfl rfl rfl rfl rfl (V_field rfl rfl fo_124_6) ?_;refine GT_st_g rfl rfl rfl rfl rfl rfl rfl (V_load rfl rfl ag_2 (CellAt.item rfl)) ?_;refine GT_st_g rfl rfl rfl rfl rfl rfl rfl (V_leq rfl rfl rfl) ?_;refine GT_st rfl rfl rfl rfl (V_pick_t rfl rfl rfl) ?_;refine GT_st rfl rfl rfl rfl (V_assign rfl rfl) ?_;refine GT_nil ?_;refine GE_ret Tryz.func92 rfl (fun w hw => ⟨?_, hw.nil⟩)
                          refine hd _ ?_; first | exact dF _ (fun e => by omega) | exact dF _ (fun e => by have := e.2.2.2.1; unfold tkOf at this; omega) | exact dT _ ⟨fun e => by omega, fun e => by refine ⟨⟨?_, ?_⟩, ?_, ?_, ?_, ⟨?_, ?_⟩, ⟨?_, ?_⟩, ⟨?_, ?_⟩, ?_, ?_⟩ <;> omega⟩
                        · refine GT_skip rfl rfl rfl rfl rfl (by decide) rfl rfl ?_;refine GT_skip rfl rfl rfl rfl rfl (by decide) rfl rfl ?_;refine GT_skip rfl rfl rfl rfl rfl (by decide) rfl rfl ?_;refine GT_st rfl rfl rfl rfl (V_pick_f rfl rfl rfl) ?_;refine GT_st rfl rfl rfl rfl (V_assign rfl rfl) ?_;refine GT_nil ?_;refine GE_ret Tryz.func92 rfl (fun w hw => ⟨?_, hw.nil⟩)
                          refine hd _ ?_; first | exact dF _ (fun e => by omega) | exact dF _ (fun e => by have := e.2.2.2.1; unfold tkOf at this; omega) | exact dT _ ⟨fun e => by omega, fun e => by refine ⟨⟨?_, ?_⟩, ?_, ?_, ?_, ⟨?_, ?_⟩, ⟨?_, ?_⟩, ⟨?_, ?_⟩, ?_, ?_⟩ <;> omega⟩
                      · refine GT_skip rfl rfl rfl rfl rfl (by decide) rfl rfl ?_;refine GT_skip rfl rfl rfl rfl rfl (by decide) rfl rfl ?_;refine GT_skip rfl rfl rfl rfl rfl (by decide) rfl rfl ?_;refine GT_st rfl rfl rfl rfl (V_pick_f rfl rfl rfl) ?_;refine GT_st rfl rfl rfl rfl (V_move rfl rfl) ?_;refine GT_skip rfl rfl rfl rfl rfl (by decide) rfl rfl ?_;refine GT_skip rfl rfl rfl rfl rfl (by decide) rfl rfl ?_;refine GT_skip rfl rfl rfl rfl rfl (by decide) rfl rfl ?_;refine GT_st rfl rfl rfl rfl (V_pick_f rfl rfl rfl) ?_;refine GT_st rfl rfl rfl rfl (V_assign rfl rfl) ?_;refine GT_nil ?_;refine GE_ret Tryz.func92 rfl (fun w hw => ⟨?_, hw.nil⟩)
                        refine hd _ ?_; first | exact dF _ (fun e => by omega) | exact dF _ (fun e => by have := e.2.2.2.1; unfold tkOf at this; omega) | exact dT _ ⟨fun e => by omega, fun e => by refine ⟨⟨?_, ?_⟩, ?_, ?_, ?_, ⟨?_, ?_⟩, ⟨?_, ?_⟩, ⟨?_, ?_⟩, ?_, ?_⟩ <;> omega⟩
                    · refine GT_skip rfl rfl rfl rfl rfl (by decide) rfl rfl ?_;refine GT_skip rfl rfl rfl rfl rfl (by decide) rfl rfl ?_;refine GT_skip rfl rfl rfl rfl rfl (by decide) rfl rfl ?_;refine GT_st rfl rfl rfl rfl (V_pick_f rfl rfl rfl) ?_;refine GT_st rfl rfl rfl rfl (V_move rfl rfl) ?_;refine GT_skip rfl rfl rfl rfl rfl (by decide) rfl rfl ?_;refine GT_skip rfl rfl rfl rfl rfl (by decide) rfl rfl ?_;refine GT_skip rfl rfl rfl rfl rfl (by decide) rfl rfl ?_;refine GT_st rfl rfl rfl rfl (V_pick_f rfl rfl rfl) ?_;refine GT_st rfl rfl rfl rfl (V_move rfl rfl) ?_;refine GT_skip rfl rfl rfl rfl rfl (by decide) rfl rfl ?_;refine GT_skip rfl rfl rfl rfl rfl (by decide) rfl rfl ?_;refine GT_skip rfl rfl rfl rfl rfl (by decide) rfl rfl ?_;refine GT_st rfl rfl rfl rfl (V_pick_f rfl rfl rfl) ?_;refine GT_st rfl rfl rfl rfl (V_assign rfl rfl) ?_;refine GT_nil ?_;refine GE_ret Tryz.func92 rfl (fun w hw => ⟨?_, hw.nil⟩)
                      refine hd _ ?_; first | exact dF _ (fun e => by omega) | exact dF _ (fun e => by have := e.2.2.2.1; unfold tkOf at this; omega) | exact dT _ ⟨fun e => by omega, fun e => by refine ⟨⟨?_, ?_⟩, ?_, ?_, ?_, ⟨?_, ?_⟩, ⟨?_, ?_⟩, ⟨?_, ?_⟩, ?_, ?_⟩ <;> omega⟩
                  · refine GT_skip rfl rfl rfl rfl rfl (by decide) rfl rfl ?_;refine GT_skip rfl rfl rfl rfl rfl (by decide) rfl rfl ?_;refine GT_skip rfl rfl rfl rfl rfl (by decide) rfl rfl ?_;refine GT_st rfl rfl rfl rfl (V_pick_f rfl rfl rfl) ?_;refine GT_st rfl rfl rfl rfl (V_move rfl rfl) ?_;refine GT_skip rfl rfl rfl rfl rfl (by decide) rfl rfl ?_;refine GT_skip rfl rfl rfl rfl rfl (by decide) rfl rfl ?_;refine GT_skip rfl rfl rfl rfl rfl (by decide) rfl rfl ?_;refine GT_st rfl rfl rfl rfl (V_pick_f rfl rfl rfl) ?_;refine GT_st rfl rfl rfl rfl (V_move rfl rfl) ?_;refine GT_skip rfl rfl rfl rfl rfl (by decide) rfl rfl ?_;refine GT_skip rfl rfl rfl rfl rfl (by decide) rfl rfl ?_;refine GT_skip rfl rfl rfl rfl rfl (by decide) rfl rfl ?_;refine GT_st rfl rfl rfl rfl (V_pick_f rfl rfl rfl) ?_;refine GT_st rfl rfl rfl rfl (V_move rfl rfl) ?_;refine GT_skip rfl rfl rfl rfl rfl (by decide) rfl rfl ?_;refine GT_skip rfl rfl rfl rfl rfl (by decide) rfl rfl ?_;refine GT_skip rfl rfl rfl rfl rfl (by decide) rfl rfl ?_;refine GT_st rfl rfl rfl rfl (V_pick_f rfl rfl rfl) ?_;refine GT_st rfl rfl rfl rfl (V_assign rfl rfl) ?_;refine GT_nil ?_;refine GE_ret Tryz.func92 rfl (fun w hw => ⟨?_, hw.nil⟩)
                    refine hd _ ?_; first | exact dF _ (fun e => by omega) | exact dF _ (fun e => by have := e.2.2.2.1; unfold tkOf at this; omega) | exact dT _ ⟨fun e => by omega, fun e => by refine ⟨⟨?_, ?_⟩, ?_, ?_, ?_, ⟨?_, ?_⟩, ⟨?_, ?_⟩, ⟨?_, ?_⟩, ?_, ?_⟩ <;> omega⟩
                · refine GT_skip rfl rfl rfl rfl rfl (by decide) rfl rfl ?_;refine GT_skip rfl rfl rfl rfl rfl (by decide) rfl rfl ?_;refine GT_skip rfl rfl rfl rfl rfl (by decide) rfl rfl ?_;refine GT_st rfl rfl rfl rfl (V_pick_f rfl rfl rfl) ?_;refine GT_st rfl rfl rfl rfl (V_move rfl rfl) ?_;refine GT_skip rfl rfl rfl rfl rfl (by decide) rfl rfl ?_;refine GT_skip rfl rfl rfl rfl rfl (by decide) rfl rfl ?_;refine GT_skip rfl rfl rfl rfl rfl (by decide) rfl rfl ?_;refine GT_st rfl rfl rfl rfl (V_pick_f rfl rfl rfl) ?_;refine GT_st rfl rfl rfl rfl (V_move rfl rfl) ?_;refine GT_skip rfl rfl rfl rfl rfl (by decide) rfl rfl ?_;refine GT_skip rfl rfl rfl rfl rfl (by decide) rfl rfl ?_;refine GT_skip rfl rfl rfl rfl rfl (by decide) rfl rfl ?_;refine GT_st rfl rfl rfl rfl (V_pick_f rfl rfl rfl) ?_;refine GT_st rfl rfl rfl rfl (V_move rfl rfl) ?_;refine GT_skip rfl rfl rfl rfl rfl (by decide) rfl rfl ?_;refine GT_skip rfl rfl rfl rfl rfl (by decide) rfl rfl ?_;refine GT_skip rfl rfl rfl rfl rfl (by decide) rfl rfl ?_;refine GT_st rfl rfl rfl rfl (V_pick_f rfl rfl rfl) ?_;refine GT_st rfl rfl rfl rfl (V_move rfl rfl) ?_;refine GT_skip rfl rfl rfl rfl rfl (by decide) rfl rfl ?_;refine GT_skip rfl rfl rfl rfl rfl (by decide) rfl rfl ?_;refine GT_skip rfl rfl rfl rfl rfl (by decide) rfl rfl ?_;refine GT_st rfl rfl rfl rfl (V_pick_f rfl rfl rfl) ?_;refine GT_st rfl rfl rfl rfl (V_assign rfl rfl) ?_;refine GT_nil ?_;refine GE_ret Tryz.func92 rfl (fun w hw => ⟨?_, hw.nil⟩)
                  refine hd _ ?_; first | exact dF _ (fun e => by omega) | exact dF _ (fun e => by have := e.2.2.2.1; unfold tkOf at this; omega) | exact dT _ ⟨fun e => by omega, fun e => by refine ⟨⟨?_, ?_⟩, ?_, ?_, ?_, ⟨?_, ?_⟩, ⟨?_, ?_⟩, ⟨?_, ?_⟩, ?_, ?_⟩ <;> omega⟩
theorem C_rLong {x : Prt} (h : -4000000000000 ≤ lng x ∧ lng x ≤ 4000000000000) : Con0 Tryz.prog 149 [.agg #[I x.tk, I x.fr, I x.to, I x.gap, I x.inn, I x.out, I x.lev]] w (I (lng x)) := by
  unfold lng at h ⊢
  refine Ret_of (vs := [_]) hm none' Tryz.func149 rfl Tryz.ntmps149 rfl ?_
  dsimp only [slotsOf]
  refine GE_seq ?_;refine GE_plain (.ld 0 [] (.st 1 .nil)) rfl ?_;refine GT_box (z := [_, _, _, _, _, _, _]) rfl rfl rfl rfl rfl rfl rfl (fun _ => GR_nil) (fun b1 => ?_)
  refine GT_st rfl rfl rfl rfl (V_assign rfl rfl) ?_;refine GT_nil ?_;refine GE_seq ?_;refine GE_plain (.st 0 (.st 1 (.st 2 (.st 3 (.st 4 (.st 5 .nil)))))) rfl ?_;refine GT_st rfl rfl rfl rfl (V_field rfl rfl fo_124_2) ?_;refine GT_st rfl rfl rfl rfl (V_load rfl rfl ag_3 (CellAt.item rfl)) ?_;refine GT_st rfl rfl rfl rfl (V_field rfl rfl fo_124_1) ?_;refine GT_st rfl rfl rfl rfl (V_load rfl rfl ag_3 (CellAt.item rfl)) ?_;refine GT_st rfl rfl rfl rfl (V_sub rfl rfl rfl (wrap_i64 (by omega))) ?_;refine GT_st rfl rfl rfl rfl (V_assign rfl rfl) ?_;refine GT_nil ?_;refine GE_ret Tryz.func149 rfl (fun w hw => ⟨?_, hw.nil⟩)
  rfl
variable {l : List Tk} {p : List Prt}
theorem C_rstarts (hg : Gd l p) (hp : RdL w 7 ePrt A2 p) : Con Tryz.prog 148 [.slice A2 p.length c2] w (fun y : Option Addr × Nat × Items => Own 1 3 eI (bgns p p.length) (.slice y.1 p.length y.2.1) y.2.2)
    (fun y => .tuple #[.slice y.1 p.length y.2.1, I (fin p)]) (fun y => y.2.2) := by
  refine Ret_of (vs := [_]) hm none' Tryz.func148 rfl Tryz.ntmps148 rfl ?_
  dsimp only [slotsOf]
  refine GE_seq ?_;refine GE_plain (.st 0 (.st 1 .nil)) rfl ?_;refine GT_st rfl rfl rfl rfl (V_assign rfl rfl) ?_;refine GT_st rfl rfl rfl rfl (V_assign rfl rfl) ?_;refine GT_nil ?_;refine GE_seq ?_;refine GE_plain (.st 0 .nil) rfl ?_;refine GT_st rfl rfl rfl rfl (V_assign rfl rfl) ?_;refine GT_nil ?_;refine GE_seq ?_;refine GE_plain (.st 0 .nil) rfl ?_;refine GT_st rfl rfl rfl rfl (V_assign rfl rfl) ?_;refine GT_nil ?_;refine GE_seq ?_;refine GE_seq ?_;refine GE_plain (.st 0 .nil) rfl ?_;refine GT_st rfl rfl rfl rfl (V_assign rfl rfl) ?_;refine GT_nil ?_;refine GE_block ?_;refine GE_to (GE_loop (ι := Nat × Option Addr × Nat × Items) (fun x => p.length - x.1) (fun x => [(0, .slice A2 p.length c2), (4, .slice x.2.1 x.1 x.2.2.1), (5, I (fin (p.take x.1))), (6, I x.1)]) (fun x => x.2.2.2) (fun x => x.1 ≤ p.length ∧ Own 1 3 eI (bgns p x.1) (.slice x.2.1 x.1 x.2.2.1) x.2.2.2) ?_ (0, none, 0, []) ?_) ⟨rfl, rfl, rfl, rfl, trivial⟩ HS.nil
  · rintro ⟨k, A', c', I'⟩ ⟨hk, hO⟩ ih; dsimp only at hk hO ih ⊢; have hfb := gd_fin hg hk; have hmost := hg.most
    refine GE_seq ?_;refine GE_seq ?_;refine GE_plain (.st 0 (.st 1 (.st 2 (.st 3 .nil)))) rfl ?_;refine GT_st rfl rfl rfl rfl (V_move rfl rfl) ?_;refine GT_st rfl rfl rfl rfl (V_move rfl rfl) ?_;refine GT_st rfl rfl rfl rfl (V_len rfl Tryz.underlying108 rfl) ?_;refine GT_st rfl rfl rfl rfl (V_lss rfl rfl rfl) ?_;refine GT_nil ?_;refine GE_cond rfl (fun q1 => ?_) (fun q1 => ?_)
    · have hkl : k < p.length := (by omega); have hpr := gd_prt hg hkl; obtain ⟨hb1, hb2, hb3, hb4⟩ := gd_bgn hg hkl
      refine GE_skip ?_;refine GE_seq ?_;refine GE_block ?_;refine GE_seq ?_;refine GE_slots (L' := [(0, _), (4, _), (5, _), (6, _)]) ⟨rfl, rfl, rfl, rfl, trivial⟩ ?_;refine GE_plain (.st 0 (.st 1 (.st 2 (.st 3 (.st 4 (.st 5 (.st 6 (.st 7 (.ld 8 [] (.ld 9 [] (.ld 10 [] .nil))))))))))) rfl ?_;refine GT_st rfl rfl rfl rfl (V_move rfl rfl) ?_;refine GT_st rfl rfl rfl rfl (V_move rfl rfl) ?_;refine GT_st rfl rfl rfl rfl (V_move rfl rfl) ?_;refine GT_st rfl rfl rfl rfl (V_move rfl rfl) ?_;refine GT_st rfl rfl rfl rfl (V_index rfl rfl rfl Tryz.underlying108 sz_124 (k := k) rfl hkl (hp.isSome hkl)) ?_;refine GT_st rfl rfl rfl rfl (V_fieldA rfl rfl fo_124_3) ?_;refine GT_st rfl rfl rfl rfl (V_load rfl rfl ag_3 (hp.at1 noM hkl (show _ = some (I (pt p k).gap) from rfl))) ?_;refine GT_st rfl rfl rfl rfl (V_add rfl rfl rfl ((wrap_i64 (by omega)).trans hb4.symm)) ?_;refine GT_buildSlice (z := [_]) rfl rfl rfl rfl rfl Tryz.underlying38 zc_3 sz_3 (by decide) rfl rfl (fun _ => GR_nil) (fun b21 => ?_)
      refine GT_append (enc := eI) (m := [bgn p k]) rfl rfl rfl rfl rfl rfl rfl hO (fun w m => RdL.own' m eI_len) Tryz.underlying38 zc_3 sz_3 ⟨rfl, by decide⟩ by_3 ⟨by rw [bgns_len]; simp only [List.length_singleton]; omega, by rw [bgns_len]; simp only [List.length_singleton]; omega⟩ eI_len eI_one (fun _ _ _ _ => GR_nil) (fun A2' c2' I2' hO2 => ?_)
      rw [← bgns_succ, bgns_len] at hO2 ⊢
      refine GT_ldv rfl rfl rfl rfl rfl (V_assign rfl rfl) (GR_nil) ?_;refine GT_nil ?_;refine GE_slots (L' := [(0, _), (4, _), (6, _)]) ⟨rfl, rfl, rfl, trivial⟩ ?_;refine GE_drawn (.st 0 (.st 1 (.st 2 (.st 3 (.st 4 (.st 5 (.st 6 (.st 7 (.ld 8 [0, 1, 2, 3] (.st 9 (.st 10 .nil))))))))))) [8] (by decide +kernel) ?_;refine GT_st rfl rfl rfl rfl (V_move rfl rfl) ?_;refine GT_st rfl rfl rfl rfl (V_move rfl rfl) ?_;refine GT_st rfl rfl rfl rfl (V_index rfl rfl rfl Tryz.underlying38 sz_3 (k := k) rfl (by omega) (hO2.isSome (k := k) (by rw [bgns_len]; omega))) ?_;refine GT_st rfl rfl rfl rfl (V_load rfl rfl ag_3 (CellAt.own0 (k := k) hO2 eI_len (by rw [bgns_len]; omega) (by rw [bgns_get (by omega)]; rfl))) ?_;refine GT_st rfl rfl rfl rfl (V_move rfl rfl) ?_;refine GT_st rfl rfl rfl rfl (V_move rfl rfl) ?_;refine GT_st rfl rfl rfl rfl (V_index rfl rfl rfl Tryz.underlying108 sz_124 (k := k) rfl hkl (hp.isSome hkl)) ?_;refine GT_st rfl rfl rfl rfl (V_loadN (vs := [_, _, _, _, _, _, _]) rfl rfl ag_124 sz_124 rfl (show CellsAt _ _ _ (ePrt (pt p k)) from hp.ats noM hkl)) ?_;refine GT_call0 rfl rfl rfl rfl rfl rfl rfl rfl rn_149 (fun w hw => C_rLong (x := pt p k) (by omega)) (GR_cons rfl rfl rfl rfl (V_move rfl rfl) (GR_cons rfl rfl rfl rfl (V_move rfl rfl) (GR_cons rfl rfl rfl rfl (V_index rfl rfl rfl Tryz.underlying38 sz_3 (k := k) rfl (by omega) (hO2.isSome (k := k) (by rw [bgns_len]; omega))) (GR_cons rfl rfl rfl rfl (V_load rfl rfl ag_3 (CellAt.own0 (k := k) hO2 eI_len (by rw [bgns_len]; omega) (by rw [bgns_get (by omega)]; rfl))) (GR_nil))))) ?_;refine GT_st rfl rfl rfl rfl (V_add rfl rfl rfl (wrap_i64 (by omega))) ?_;refine GT_st rfl rfl rfl rfl (V_assign rfl rfl) ?_;refine GT_nil ?_;refine GE_inBlock ?_
      refine GE_slots (L' := [(0, _), (4, _), (5, _), (6, _)]) ⟨rfl, rfl, rfl, rfl, trivial⟩ ?_;refine GE_plain (.st 0 (.st 1 (.ld 2 [] .nil))) rfl ?_;refine GT_st rfl rfl rfl rfl (V_move rfl rfl) ?_;refine GT_st rfl rfl rfl rfl (V_add rfl rfl rfl (wrap_i64 (by omega))) ?_;refine GT_ldv rfl rfl rfl rfl rfl (V_assign rfl rfl) (GR_nil) ?_;refine GT_nil ?_
      exact GE_to (ih (k + 1, A2', c2', I2') ⟨by dsimp only; omega, hO2⟩ (by dsimp only; omega)) ⟨rfl, rfl, lookI rfl (by rw [fin_take hkl, hb3]), rfl, trivial⟩ HS.last
    · obtain rfl : k = p.length := (by omega); rw [fin_all]
      refine GE_exit rfl ?_;refine GE_seq ?_;refine GE_slots (L' := [(4, _), (5, _)]) ⟨rfl, rfl, trivial⟩ ?_;refine GE_plain (.st 0 (.st 1 (.st 2 (.st 3 .nil)))) rfl ?_;refine GT_st rfl rfl rfl rfl (V_move rfl rfl) ?_;refine GT_st rfl rfl rfl rfl (V_move rfl rfl) ?_;refine GT_st rfl rfl rfl rfl (V_assign rfl rfl) ?_;refine GT_st rfl rfl rfl rfl (V_assign rfl rfl) ?_;refine GT_nil ?_;refine GE_ret Tryz.func148 ⟨_, _, rfl, rfl, rfl⟩ (fun w hw => ?_)
      exact ⟨(A', c', I'), hO, rfl, hw⟩
  · exact ⟨Nat.zero_le _, Own.nil⟩
set_option maxRecDepth 20000 in
set_option maxHeartbeats 2000000 in
theorem C_rpossible (hg : Gd l p) (hp : RdL w 7 ePrt A2 p) : Con0 Tryz.prog 93 [.slice A2 p.length c2] w (.bool (decide (Poss p))) := by
  refine Ret_of (vs := [_]) hm none' Tryz.func93 rfl Tryz.ntmps93 rfl ?_
  dsimp only [slotsOf]
  refine GE_seq ?_;refine GE_plain (.st 0 .nil) rfl ?_;refine GT_st rfl rfl rfl rfl (V_assign rfl rfl) ?_;refine GT_nil ?_;refine GE_seq ?_;refine GE_plain (.st 0 (.ld 1 [] (.st 2 (.st 3 (.st 4 (.st 5 (.st 6 .nil))))))) rfl ?_;refine GT_st rfl rfl rfl rfl (V_move rfl rfl) ?_;refine GT_call rfl rfl rfl rfl rfl rfl rfl rfl rn_148 (fun w hw => C_rstarts hg (hp.sh hw)) (fun _ _ => GR_nil) (fun y hy => ?_)
  refine GT_st rfl rfl rfl rfl (V_move rfl rfl) ?_;refine GT_st rfl rfl rfl rfl (V_extract rfl rfl rfl) ?_;refine GT_st rfl rfl rfl rfl (V_extract rfl rfl rfl) ?_;refine GT_st rfl rfl rfl rfl (V_assign rfl rfl) ?_;refine GT_st rfl rfl rfl rfl (V_assign rfl rfl) ?_;refine GT_nil ?_;refine GE_seq ?_;refine GE_seq ?_;refine GE_slots (L' := [(0, _), (3, _), (4, _)]) ⟨rfl, rfl, rfl, trivial⟩ ?_;refine GE_plain (.st 0 .nil) rfl ?_;refine GT_st rfl rfl rfl rfl (V_assign rfl rfl) ?_;refine GT_nil ?_;refine GE_block ?_;refine GE_to (GE_loop (ι := Nat) (fun i => p.length - i) (fun i => [(0, .slice A2 p.length c2), (3, .slice y.1 p.length y.2.1), (4, I (fin p)), (5, I i)]) (fun i => y.2.2) (fun i => i ≤ p.length ∧ ∀ j, j < i → posOk p j) ?_ 0 ?_) ⟨rfl, rfl, rfl, rfl, trivial⟩ HS.last
  · rintro i ⟨hi, hps⟩ ih; have hmost := hg.most; have bl := bgns_len p p.length
    refine GE_seq ?_;refine GE_seq ?_;refine GE_plain (.st 0 (.st 1 (.st 2 (.st 3 .nil)))) rfl ?_;refine GT_st rfl rfl rfl rfl (V_move rfl rfl) ?_;refine GT_st rfl rfl rfl rfl (V_move rfl rfl) ?_;refine GT_st rfl rfl rfl rfl (V_len rfl Tryz.underlying108 rfl) ?_;refine GT_st rfl rfl rfl rfl (V_lss rfl rfl rfl) ?_;refine GT_nil ?_;refine GE_cond rfl (fun q1 => ?_) (fun q1 => ?_)
    · have hil : i < p.length := (by omega); have hpr := gd_prt hg hil; have hpr1 := gd_prt hg (i := i - 1) (by omega); have hpr2 := gd_prt hg (i := i - 2) (by omega); have hbb := gd_bgn hg hil; have hb1 := gd_bgn hg (i := i - 1) (by omega); have hb2 := gd_bgn hg (i := i - 2) (by omega); have hbs : 0 < i → bgn p i = en p (i - 1) + (pt p i).gap := (fun h0 => bgn_succ h0 hil)
      refine GE_skip ?_;refine GE_seq ?_;refine GE_block ?_;refine GE_seq ?_;refine GE_slots (L' := [(0, _), (3, _), (4, _), (5, _)]) ⟨rfl, rfl, rfl, rfl, trivial⟩ ?_;refine GE_drawn (.st 0 (.st 1 (.st 2 (.st 3 (.st 4 (.st 5 (.st 6 (.st 7 (.st 8 (.st 9 (.st 10 (.st 11 (.st 12 (.st 13 (.st 14 (.st 15 (.st 16 (.st 17 (.st 18 (.st 19 (.st 20 (.st 21 (.ld 22 [13, 14, 15, 16, 17] (.st 23 (.st 24 (.st 25 (.st 26 (.st 27 (.st 28 (.st 29 (.st 30 (.st 31 (.st 32 (.st 33 (.st 34 (.st 35 (.ld 36 [26, 27, 28, 29, 30] (.st 37 (.st 38 (.st 39 (.st 40 (.st 41 (.st 42 (.st 43 (.st 44 (.st 45 (.st 46 (.st 47 (.st 48 (.st 49 (.st 50 (.st 51 (.st 52 (.st 53 (.st 54 (.st 55 (.st 56 (.st 57 (.st 58 (.st 59 (.ld 60 [46, 47, 48, 49, 50, 51, 52, 53, 54] (.st 61 (.st 62 (.st 63 (.st 64 .nil))))))))))))))))))))))))))))))))))))))))))))))))))))))))))))))))) [22, 36, 60] (by decide +kernel) ?_;refine GT_st rfl rfl rfl rfl (V_move rfl rfl) ?_;refine GT_st rfl rfl rfl rfl (V_eql rfl rfl rfl) ?_;refine GT_st rfl rfl rfl rfl (V_move rfl rfl) ?_;refine GT_split (d := 19) rfl (fun q2 => ?_) (fun q2 => ?_)
      · refine GT_st_g rfl rfl rfl rfl rfl rfl rfl (V_move rfl rfl) ?_;refine GT_st_g rfl rfl rfl rfl rfl rfl rfl (V_move rfl rfl) ?_;refine GT_st_g rfl rfl rfl rfl rfl rfl rfl (V_index rfl rfl rfl Tryz.underlying38 sz_3 (k := i) rfl hil (hy.isSome (k := i) (by omega))) ?_;refine GT_st_g rfl rfl rfl rfl rfl rfl rfl (V_load rfl rfl ag_3 (CellAt.own0 (k := i) hy eI_len (by omega) (by rw [bgns_get hil]; rfl))) ?_;refine GT_st_g rfl rfl rfl rfl rfl rfl rfl (V_lss rfl rfl rfl) ?_;refine GT_st rfl rfl rfl rfl (V_pick_t rfl rfl rfl) ?_;refine GT_st rfl rfl rfl rfl (V_move rfl rfl) ?_;refine GT_split (d := 26) rfl (fun q3 => ?_) (fun q3 => ?_)
        · refine GT_skip rfl rfl rfl rfl rfl (by decide) rfl rfl ?_;refine GT_skip rfl rfl rfl rfl rfl (by decide) rfl rfl ?_;refine GT_skip rfl rfl rfl rfl rfl (by decide) rfl rfl ?_;refine GT_skip rfl rfl rfl rfl rfl (by decide) rfl rfl ?_;refine GT_skip rfl rfl rfl rfl rfl (by decide) rfl rfl ?_;refine GT_skip rfl rfl rfl rfl rfl (by decide) rfl rfl ?_;refine GT_skip rfl rfl rfl rfl rfl (by decide) rfl rfl ?_;refine GT_skip rfl rfl rfl rfl rfl (by decide) rfl rfl ?_;refine GT_skip rfl rfl rfl rfl rfl (by decide) rfl rfl ?_;refine GT_skip rfl rfl rfl rfl rfl (by decide) rfl rfl ?_;refine GT_skip rfl rfl rfl rfl rfl (by decide) rfl rfl ?_;refine GT_skip rfl rfl rfl rfl rfl (by decide) rfl rfl ?_;refine GT_skip_ld rfl rfl rfl rfl rfl (by decide) rfl rfl rfl (GR_skip rfl rfl rfl rfl rfl (by decide) rfl rfl (GR_skip rfl rfl rfl rfl rfl (by decide) rfl rfl (GR_skip rfl rfl rfl rfl rfl (by decide) rfl rfl (GR_skip rfl rfl rfl rfl rfl (by decide) rfl rfl (GR_skip rfl rfl rfl rfl rfl (by decide) rfl rfl (GR_nil)))))) ?_;refine GT_skip rfl rfl rfl rfl rfl (by decide) rfl rfl ?_;refine GT_skip rfl rfl rfl rfl rfl (by decide) rfl rfl ?_;refine GT_skip rfl rfl rfl rfl rfl (by decide) rfl rfl ?_;refine GT_skip rfl rfl rfl rfl rfl (by decide) rfl rfl ?_;refine GT_skip rfl rfl rfl rfl rfl (by decide) rfl rfl ?_;refine GT_skip rfl rfl rfl rfl rfl (by decide) rfl rfl ?_;refine GT_skip rfl rfl rfl rfl rfl (by decide) rfl rfl ?_;refine GT_skip rfl rfl rfl rfl rfl (by decide) rfl rfl ?_;refine GT_skip rfl rfl rfl rfl rfl (by decide) rfl rfl ?_;refine GT_skip rfl rfl rfl rfl rfl (by decide) rfl rfl ?_;refine GT_skip rfl rfl rfl rfl rfl (by decide) rfl rfl ?_;refine GT_skip rfl rfl rfl rfl rfl (by decide) rfl rfl ?_;refine GT_skip rfl rfl rfl rfl rfl (by decide) rfl rfl ?_
          refine GT_skip_ld rfl rfl rfl rfl rfl (by decide) rfl rfl rfl (GR_skip rfl rfl rfl rfl rfl (by decide) rfl rfl (GR_skip rfl rfl rfl rfl rfl (by decide) rfl rfl (GR_skip rfl rfl rfl rfl rfl (by decide) rfl rfl (GR_skip rfl rfl rfl rfl rfl (by decide) rfl rfl (GR_skip rfl rfl rfl rfl rfl (by decide) rfl rfl (GR_nil)))))) ?_;refine GT_skip rfl rfl rfl rfl rfl (by decide) rfl rfl ?_;refine GT_skip rfl rfl rfl rfl rfl (by decide) rfl rfl ?_;refine GT_skip rfl rfl rfl rfl rfl (by decide) rfl rfl ?_;refine GT_skip rfl rfl rfl rfl rfl (by decide) rfl rfl ?_;refine GT_st rfl rfl rfl rfl (V_pick_t rfl rfl rfl) ?_;refine GT_st rfl rfl rfl rfl (V_move rfl rfl) ?_;refine GT_skip rfl rfl rfl rfl rfl (by decide) rfl rfl ?_;refine GT_skip rfl rfl rfl rfl rfl (by decide) rfl rfl ?_;refine GT_skip rfl rfl rfl rfl rfl (by decide) rfl rfl ?_;refine GT_skip rfl rfl rfl rfl rfl (by decide) rfl rfl ?_;refine GT_skip rfl rfl rfl rfl rfl (by decide) rfl rfl ?_;refine GT_skip rfl rfl rfl rfl rfl (by decide) rfl rfl ?_;refine GT_skip rfl rfl rfl rfl rfl (by decide) rfl rfl ?_;refine GT_skip rfl rfl rfl rfl rfl (by decide) rfl rfl ?_;refine GT_skip rfl rfl rfl rfl rfl (by decide) rfl rfl ?_;refine GT_skip rfl rfl rfl rfl rfl (by decide) rfl rfl ?_;refine GT_skip rfl rfl rfl rfl rfl (by decide) rfl rfl ?_;refine GT_skip rfl rfl rfl rfl rfl (by decide) rfl rfl ?_;refine GT_skip rfl rfl rfl rfl rfl (by decide) rfl rfl ?_;refine GT_skip rfl rfl rfl rfl rfl (by decide) rfl rfl ?_;refine GT_skip rfl rfl rfl rfl rfl (by decide) rfl rfl ?_;refine GT_skip rfl rfl rfl rfl rfl (by decide) rfl rfl ?_;refine GT_skip rfl rfl rfl rfl rfl (by decide) rfl rfl ?_
          refine GT_skip_ld rfl rfl rfl rfl rfl (by decide) rfl rfl rfl (GR_skip rfl rfl rfl rfl rfl (by decide) rfl rfl (GR_skip rfl rfl rfl rfl rfl (by decide) rfl rfl (GR_skip rfl rfl rfl rfl rfl (by decide) rfl rfl (GR_skip rfl rfl rfl rfl rfl (by decide) rfl rfl (GR_skip rfl rfl rfl rfl rfl (by decide) rfl rfl (GR_skip rfl rfl rfl rfl rfl (by decide) rfl rfl (GR_skip rfl rfl rfl rfl rfl (by decide) rfl rfl (GR_skip rfl rfl rfl rfl rfl (by decide) rfl rfl (GR_skip rfl rfl rfl rfl rfl (by decide) rfl rfl (GR_nil)))))))))) ?_;refine GT_skip rfl rfl rfl rfl rfl (by decide) rfl rfl ?_;refine GT_skip rfl rfl rfl rfl rfl (by decide) rfl rfl ?_;refine GT_skip rfl rfl rfl rfl rfl (by decide) rfl rfl ?_;refine GT_st rfl rfl rfl rfl (V_pick_t rfl rfl rfl) ?_;refine GT_nil ?_;refine GE_cond_t rfl ?_;refine GE_seq ?_;refine GE_slots (L' := []) trivial ?_;refine GE_plain (.st 0 .nil) rfl ?_;refine GT_st rfl rfl rfl rfl (V_assign rfl rfl) ?_;refine GT_nil ?_;refine GE_ret Tryz.func93 rfl (fun w hw => ⟨?_, hw.nil⟩)
          first | (rw [decide_eq_false]; intro hP; have := hP.1 i hil; unfold posOk at this; omega) | (refine congrArg Value.bool (decide_eq_decide.2 ⟨fun h => ⟨fun j hj => hps j (by omega), h⟩, fun h => h.2⟩))
        · refine GT_st_g rfl rfl rfl rfl rfl rfl rfl (V_move rfl rfl) ?_;refine GT_st_g rfl rfl rfl rfl rfl rfl rfl (V_gtr rfl rfl rfl) ?_;refine GT_st_g rfl rfl rfl rfl rfl rfl rfl (V_move rfl rfl) ?_;refine GT_split (d := 29) rfl (fun q4 => ?_) (fun q4 => ?_)
          · refine GT_st_g rfl rfl rfl rfl rfl rfl rfl (V_move rfl rfl) ?_;refine GT_st_g rfl rfl rfl rfl rfl rfl rfl (V_move rfl rfl) ?_;refine GT_st_g rfl rfl rfl rfl rfl rfl rfl (V_index rfl rfl rfl Tryz.underlying108 sz_124 (k := i) rfl hil (hp.isSome hil)) ?_;refine GT_st_g rfl rfl rfl rfl rfl rfl rfl (V_fieldA rfl rfl fo_124_3) ?_;refine GT_st_g rfl rfl rfl rfl rfl rfl rfl (V_load rfl rfl ag_3 (hp.at1 noM hil (show _ = some (I (pt p i).gap) from rfl))) ?_;refine GT_st_g rfl rfl rfl rfl rfl rfl rfl (V_move rfl rfl) ?_;refine GT_st_g rfl rfl rfl rfl rfl rfl rfl (V_move rfl rfl) ?_;refine GT_st_g rfl rfl rfl rfl rfl rfl rfl (V_index rfl rfl rfl Tryz.underlying108 sz_124 (k := i) rfl hil (hp.isSome hil)) ?_;refine GT_st_g rfl rfl rfl rfl rfl rfl rfl (V_loadN (vs := [_, _, _, _, _, _, _]) rfl rfl ag_124 sz_124 rfl (show CellsAt _ _ _ (ePrt (pt p i)) from hp.ats noM hil)) ?_;refine GT_call0_g rfl rfl rfl rfl rfl rfl rfl rfl rfl rfl rfl rn_149 (fun w hw => C_rLong (x := pt p i) (by omega)) (GR_cons_g rfl rfl rfl rfl rfl rfl rfl (V_move rfl rfl) (GR_cons_g rfl rfl rfl rfl rfl rfl rfl (V_move rfl rfl) (GR_cons_g rfl rfl rfl rfl rfl rfl rfl (V_index rfl rfl rfl Tryz.underlying108 sz_124 (k := i) rfl hil (hp.isSome hil)) (GR_cons_g rfl rfl rfl rfl rfl rfl rfl ((by first | exact V_field rfl rfl fo_124_3 | exact V_fieldA rfl rfl fo_124_3)) (GR_cons_g rfl rfl rfl rfl rfl rfl rfl (V_load rfl rfl ag_3 (hp.at1 noM hil (show _ = some (I (pt p i).gap) from rfl))) (GR_nil)))))) ?_;refine GT_st_g rfl rfl rfl rfl rfl rfl rfl (V_neg rfl rfl (wrap_i64 (by omega))) ?_;refine GT_st_g rfl rfl rfl rfl rfl rfl rfl (V_lss rfl rfl rfl) ?_;refine GT_st_g rfl rfl rfl rfl rfl rfl rfl (V_move rfl rfl) ?_;refine GT_split (d := 42) rfl (fun q5 => ?_) (fun q5 => ?_)
            · refine GT_skip rfl rfl rfl rfl rfl (by decide) rfl rfl ?_;refine GT_skip rfl rfl rfl rfl rfl (by decide) rfl rfl ?_;refine GT_skip rfl rfl rfl rfl rfl (by decide) rfl rfl ?_;refine GT_skip rfl rfl rfl rfl rfl (by decide) rfl rfl ?_;refine GT_skip rfl rfl rfl rfl rfl (by decide) rfl rfl ?_;refine GT_skip rfl rfl rfl rfl rfl (by decide) rfl rfl ?_;refine GT_skip rfl rfl rfl rfl rfl (by decide) rfl rfl ?_;refine GT_skip rfl rfl rfl rfl rfl (by decide) rfl rfl ?_;refine GT_skip rfl rfl rfl rfl rfl (by decide) rfl rfl ?_;refine GT_skip rfl rfl rfl rfl rfl (by decide) rfl rfl ?_;refine GT_skip_ld rfl rfl rfl rfl rfl (by decide) rfl rfl rfl (GR_skip rfl rfl rfl rfl rfl (by decide) rfl rfl (GR_skip rfl rfl rfl rfl rfl (by decide) rfl rfl (GR_skip rfl rfl rfl rfl rfl (by decide) rfl rfl (GR_skip rfl rfl rfl rfl rfl (by decide) rfl rfl (GR_skip rfl rfl rfl rfl rfl (by decide) rfl rfl (GR_nil)))))) ?_;refine GT_skip rfl rfl rfl rfl rfl (by decide) rfl rfl ?_;refine GT_skip rfl rfl rfl rfl rfl (by decide) rfl rfl ?_;refine GT_st_g rfl rfl rfl rfl rfl rfl rfl (V_pick_t rfl rfl rfl) ?_;refine GT_st_g rfl rfl rfl rfl rfl rfl rfl (V_pick_t rfl rfl rfl) ?_;refine GT_st rfl rfl rfl rfl (V_pick_f rfl rfl rfl) ?_;refine GT_st rfl rfl rfl rfl (V_move rfl rfl) ?_;refine GT_skip rfl rfl rfl rfl rfl (by decide) rfl rfl ?_;refine GT_skip rfl rfl rfl rfl rfl (by decide) rfl rfl ?_;refine GT_skip rfl rfl rfl rfl rfl (by decide) rfl rfl ?_;refine GT_skip rfl rfl rfl rfl rfl (by decide) rfl rfl ?_;refine GT_skip rfl rfl rfl rfl rfl (by decide) rfl rfl ?_;refine GT_skip rfl rfl rfl rfl rfl (by decide) rfl rfl ?_;refine GT_skip rfl rfl rfl rfl rfl (by decide) rfl rfl ?_;refine GT_skip rfl rfl rfl rfl rfl (by decide) rfl rfl ?_;refine GT_skip rfl rfl rfl rfl rfl (by decide) rfl rfl ?_
              refine GT_skip rfl rfl rfl rfl rfl (by decide) rfl rfl ?_;refine GT_skip rfl rfl rfl rfl rfl (by decide) rfl rfl ?_;refine GT_skip rfl rfl rfl rfl rfl (by decide) rfl rfl ?_;refine GT_skip rfl rfl rfl rfl rfl (by decide) rfl rfl ?_;refine GT_skip rfl rfl rfl rfl rfl (by decide) rfl rfl ?_;refine GT_skip rfl rfl rfl rfl rfl (by decide) rfl rfl ?_;refine GT_skip rfl rfl rfl rfl rfl (by decide) rfl rfl ?_;refine GT_skip rfl rfl rfl rfl rfl (by decide) rfl rfl ?_;refine GT_skip_ld rfl rfl rfl rfl rfl (by decide) rfl rfl rfl (GR_skip rfl rfl rfl rfl rfl (by decide) rfl rfl (GR_skip rfl rfl rfl rfl rfl (by decide) rfl rfl (GR_skip rfl rfl rfl rfl rfl (by decide) rfl rfl (GR_skip rfl rfl rfl rfl rfl (by decide) rfl rfl (GR_skip rfl rfl rfl rfl rfl (by decide) rfl rfl (GR_skip rfl rfl rfl rfl rfl (by decide) rfl rfl (GR_skip rfl rfl rfl rfl rfl (by decide) rfl rfl (GR_skip rfl rfl rfl rfl rfl (by decide) rfl rfl (GR_skip rfl rfl rfl rfl rfl (by decide) rfl rfl (GR_nil)))))))))) ?_;refine GT_skip rfl rfl rfl rfl rfl (by decide) rfl rfl ?_;refine GT_skip rfl rfl rfl rfl rfl (by decide) rfl rfl ?_;refine GT_skip rfl rfl rfl rfl rfl (by decide) rfl rfl ?_;refine GT_st rfl rfl rfl rfl (V_pick_t rfl rfl rfl) ?_;refine GT_nil ?_;refine GE_cond_t rfl ?_;refine GE_seq ?_;refine GE_slots (L' := []) trivial ?_;refine GE_plain (.st 0 .nil) rfl ?_;refine GT_st rfl rfl rfl rfl (V_assign rfl rfl) ?_;refine GT_nil ?_;refine GE_ret Tryz.func93 rfl (fun w hw => ⟨?_, hw.nil⟩)
              first | (rw [decide_eq_false]; intro hP; have := hP.1 i hil; unfold posOk at this; omega) | (refine congrArg Value.bool (decide_eq_decide.2 ⟨fun h => ⟨fun j hj => hps j (by omega), h⟩, fun h => h.2⟩))
            · refine GT_st_g rfl rfl rfl rfl rfl rfl rfl (V_move rfl rfl) ?_;refine GT_st_g rfl rfl rfl rfl rfl rfl rfl (V_move rfl rfl) ?_;refine GT_st_g rfl rfl rfl rfl rfl rfl rfl (V_index rfl rfl rfl Tryz.underlying108 sz_124 (k := i) rfl hil (hp.isSome hil)) ?_;refine GT_st_g rfl rfl rfl rfl rfl rfl rfl (V_fieldA rfl rfl fo_124_3) ?_;refine GT_st_g rfl rfl rfl rfl rfl rfl rfl (V_load rfl rfl ag_3 (hp.at1 noM hil (show _ = some (I (pt p i).gap) from rfl))) ?_;refine GT_st_g rfl rfl rfl rfl rfl rfl rfl (V_move rfl rfl) ?_;refine GT_st_g rfl rfl rfl rfl rfl rfl rfl (V_move rfl rfl) ?_;refine GT_st_g rfl rfl rfl rfl rfl rfl rfl (V_sub rfl rfl rfl (wrap_i64 (by omega))) ?_;refine GT_st_g rfl rfl rfl rfl rfl rfl rfl (V_index rfl rfl rfl Tryz.underlying108 sz_124 (k := i - 1) (by omega) (by omega) (hp.isSome (k := i - 1) (by omega))) ?_;refine GT_st_g rfl rfl rfl rfl rfl rfl rfl (V_loadN (vs := [_, _, _, _, _, _, _]) rfl rfl ag_124 sz_124 rfl (show CellsAt _ _ _ (ePrt (pt p (i - 1))) from hp.ats noM (by omega))) ?_;refine GT_call0_g rfl rfl rfl rfl rfl rfl rfl rfl rfl rfl rfl rn_149 (fun w hw => C_rLong (x := pt p (i - 1)) (by omega)) (GR_cons_g rfl rfl rfl rfl rfl rfl rfl (V_move rfl rfl) (GR_cons_g rfl rfl rfl rfl rfl rfl rfl (V_move rfl rfl) (GR_cons_g rfl rfl rfl rfl rfl rfl rfl (V_index rfl rfl rfl Tryz.underlying108 sz_124 (k := i) rfl hil (hp.isSome hil)) (GR_cons_g rfl rfl rfl rfl rfl rfl rfl ((by first | exact V_field rfl rfl fo_124_3 | exact V_fieldA rfl rfl fo_124_3)) (GR_cons_g rfl rfl rfl rfl rfl rfl rfl (V_load rfl rfl ag_3 (hp.at1 noM hil (show _ = some (I (pt p i).gap) from rfl))) (GR_nil)))))) ?_;refine GT_st_g rfl rfl rfl rfl rfl rfl rfl (V_neg rfl rfl (wrap_i64 (by omega))) ?_;refine GT_st_g rfl rfl rfl rfl rfl rfl rfl (V_lss rfl rfl rfl) ?_
              refine GT_st_g rfl rfl rfl rfl rfl rfl rfl (V_pick_f rfl rfl rfl) ?_;refine GT_st_g rfl rfl rfl rfl rfl rfl rfl (V_pick_t rfl rfl rfl) ?_;refine GT_st rfl rfl rfl rfl (V_pick_f rfl rfl rfl) ?_;refine GT_st rfl rfl rfl rfl (V_move rfl rfl) ?_;refine GT_split (d := 59) rfl (fun q6 => ?_) (fun q6 => ?_)
              · refine GT_skip rfl rfl rfl rfl rfl (by decide) rfl rfl ?_;refine GT_skip rfl rfl rfl rfl rfl (by decide) rfl rfl ?_;refine GT_skip rfl rfl rfl rfl rfl (by decide) rfl rfl ?_;refine GT_skip rfl rfl rfl rfl rfl (by decide) rfl rfl ?_;refine GT_skip rfl rfl rfl rfl rfl (by decide) rfl rfl ?_;refine GT_skip rfl rfl rfl rfl rfl (by decide) rfl rfl ?_;refine GT_skip rfl rfl rfl rfl rfl (by decide) rfl rfl ?_;refine GT_skip rfl rfl rfl rfl rfl (by decide) rfl rfl ?_;refine GT_skip rfl rfl rfl rfl rfl (by decide) rfl rfl ?_;refine GT_skip rfl rfl rfl rfl rfl (by decide) rfl rfl ?_;refine GT_skip rfl rfl rfl rfl rfl (by decide) rfl rfl ?_;refine GT_skip rfl rfl rfl rfl rfl (by decide) rfl rfl ?_;refine GT_skip rfl rfl rfl rfl rfl (by decide) rfl rfl ?_;refine GT_skip rfl rfl rfl rfl rfl (by decide) rfl rfl ?_;refine GT_skip rfl rfl rfl rfl rfl (by decide) rfl rfl ?_;refine GT_skip rfl rfl rfl rfl rfl (by decide) rfl rfl ?_;refine GT_skip rfl rfl rfl rfl rfl (by decide) rfl rfl ?_;refine GT_skip_ld rfl rfl rfl rfl rfl (by decide) rfl rfl rfl (GR_skip rfl rfl rfl rfl rfl (by decide) rfl rfl (GR_skip rfl rfl rfl rfl rfl (by decide) rfl rfl (GR_skip rfl rfl rfl rfl rfl (by decide) rfl rfl (GR_skip rfl rfl rfl rfl rfl (by decide) rfl rfl (GR_skip rfl rfl rfl rfl rfl (by decide) rfl rfl (GR_skip rfl rfl rfl rfl rfl (by decide) rfl rfl (GR_skip rfl rfl rfl rfl rfl (by decide) rfl rfl (GR_skip rfl rfl rfl rfl rfl (by decide) rfl rfl (GR_skip rfl rfl rfl rfl rfl (by decide) rfl rfl (GR_nil)))))))))) ?_;refine GT_skip rfl rfl rfl rfl rfl (by decide) rfl rfl ?_;refine GT_skip rfl rfl rfl rfl rfl (by decide) rfl rfl ?_;refine GT_skip rfl rfl rfl rfl rfl (by decide) rfl rfl ?_;refine GT_st rfl rfl rfl rfl (V_pick_t rfl rfl rfl) ?_;refine GT_nil ?_;refine GE_cond_t rfl ?_
                refine GE_seq ?_;refine GE_slots (L' := []) trivial ?_;refine GE_plain (.st 0 .nil) rfl ?_;refine GT_st rfl rfl rfl rfl (V_assign rfl rfl) ?_;refine GT_nil ?_;refine GE_ret Tryz.func93 rfl (fun w hw => ⟨?_, hw.nil⟩)
                first | (rw [decide_eq_false]; intro hP; have := hP.1 i hil; unfold posOk at this; omega) | (refine congrArg Value.bool (decide_eq_decide.2 ⟨fun h => ⟨fun j hj => hps j (by omega), h⟩, fun h => h.2⟩))
              · refine GT_st_g rfl rfl rfl rfl rfl rfl rfl (V_move rfl rfl) ?_;refine GT_st_g rfl rfl rfl rfl rfl rfl rfl (V_gtr rfl rfl rfl) ?_;refine GT_st_g rfl rfl rfl rfl rfl rfl rfl (V_move rfl rfl) ?_;refine GT_split (d := 62) rfl (fun q7 => ?_) (fun q7 => ?_)
                · refine GT_st_g rfl rfl rfl rfl rfl rfl rfl (V_move rfl rfl) ?_;refine GT_st_g rfl rfl rfl rfl rfl rfl rfl (V_move rfl rfl) ?_;refine GT_st_g rfl rfl rfl rfl rfl rfl rfl (V_index rfl rfl rfl Tryz.underlying38 sz_3 (k := i) rfl hil (hy.isSome (k := i) (by omega))) ?_;refine GT_st_g rfl rfl rfl rfl rfl rfl rfl (V_load rfl rfl ag_3 (CellAt.own0 (k := i) hy eI_len (by omega) (by rw [bgns_get hil]; rfl))) ?_;refine GT_st_g rfl rfl rfl rfl rfl rfl rfl (V_move rfl rfl) ?_;refine GT_st_g rfl rfl rfl rfl rfl rfl rfl (V_move rfl rfl) ?_;refine GT_st_g rfl rfl rfl rfl rfl rfl rfl (V_sub rfl rfl rfl (wrap_i64 (by omega))) ?_;refine GT_st_g rfl rfl rfl rfl rfl rfl rfl (V_index rfl rfl rfl Tryz.underlying38 sz_3 (k := i - 2) (by omega) (by omega) (hy.isSome (k := i) (by omega))) ?_;refine GT_st_g rfl rfl rfl rfl rfl rfl rfl (V_load rfl rfl ag_3 (CellAt.own0 (k := i - 2) hy eI_len (by omega) (by rw [bgns_get (by omega)]; rfl))) ?_;refine GT_st_g rfl rfl rfl rfl rfl rfl rfl (V_move rfl rfl) ?_;refine GT_st_g rfl rfl rfl rfl rfl rfl rfl (V_move rfl rfl) ?_;refine GT_st_g rfl rfl rfl rfl rfl rfl rfl (V_sub rfl rfl rfl (wrap_i64 (by omega))) ?_;refine GT_st_g rfl rfl rfl rfl rfl rfl rfl (V_index rfl rfl rfl Tryz.underlying108 sz_124 (k := i - 2) (by omega) (by omega) (hp.isSome (k := i - 2) (by omega))) ?_;refine GT_st_g rfl rfl rfl rfl rfl rfl rfl (V_loadN (vs := [_, _, _, _, _, _, _]) rfl rfl ag_124 sz_124 rfl (show CellsAt _ _ _ (ePrt (pt p (i - 2))) from hp.ats noM (by omega))) ?_
                  refine GT_call0_g rfl rfl rfl rfl rfl rfl rfl rfl rfl rfl rfl rn_149 (fun w hw => C_rLong (x := pt p (i - 2)) (by omega)) (GR_cons_g rfl rfl rfl rfl rfl rfl rfl (V_move rfl rfl) (GR_cons_g rfl rfl rfl rfl rfl rfl rfl (V_move rfl rfl) (GR_cons_g rfl rfl rfl rfl rfl rfl rfl (V_index rfl rfl rfl Tryz.underlying38 sz_3 (k := i) rfl hil (hy.isSome (k := i) (by omega))) (GR_cons_g rfl rfl rfl rfl rfl rfl rfl (V_load rfl rfl ag_3 (CellAt.own0 (k := i) hy eI_len (by omega) (by rw [bgns_get hil]; rfl))) (GR_cons_g rfl rfl rfl rfl rfl rfl rfl (V_move rfl rfl) (GR_cons_g rfl rfl rfl rfl rfl rfl rfl (V_move rfl rfl) (GR_cons_g rfl rfl rfl rfl rfl rfl rfl (V_sub rfl rfl rfl (wrap_i64 (by omega))) (GR_cons_g rfl rfl rfl rfl rfl rfl rfl (V_index rfl rfl rfl Tryz.underlying38 sz_3 (k := i - 2) (by omega) (by omega) (hy.isSome (k := i) (by omega))) (GR_cons_g rfl rfl rfl rfl rfl rfl rfl (V_load rfl rfl ag_3 (CellAt.own0 (k := i - 2) hy eI_len (by omega) (by rw [bgns_get (by omega)]; rfl))) (GR_nil)))))))))) ?_;refine GT_st_g rfl rfl rfl rfl rfl rfl rfl (V_add rfl rfl rfl (wrap_i64 (by omega))) ?_;refine GT_st_g rfl rfl rfl rfl rfl rfl rfl (V_lss rfl rfl rfl) ?_;refine GT_st_g rfl rfl rfl rfl rfl rfl rfl (V_pick_t rfl rfl rfl) ?_;refine GT_st rfl rfl rfl rfl (V_pick_f rfl rfl rfl) ?_;refine GT_nil ?_;refine GE_cond rfl (fun q8 => ?_) (fun q8 => ?_)
                  · refine GE_seq ?_;refine GE_slots (L' := []) trivial ?_;refine GE_plain (.st 0 .nil) rfl ?_;refine GT_st rfl rfl rfl rfl (V_assign rfl rfl) ?_;refine GT_nil ?_;refine GE_ret Tryz.func93 rfl (fun w hw => ⟨?_, hw.nil⟩)
                    rw [decide_eq_false]; intro hP; have := hP.1 i hil; unfold posOk at this; omega
                  · refine GE_skip ?_;refine GE_inBlock ?_;refine GE_slots (L' := [(0, _), (3, _), (4, _), (5, _), (20, _), (21, _), (22, _), (23, _), (24, _), (27, _), (28, _), (29, _), (30, _), (31, _), (32, _), (33, _), (34, _), (35, _), (36, _), (37, _), (38, _), (39, _), (40, _), (41, _), (42, _), (43, _), (44, _), (45, _), (46, _), (47, _), (48, _), (49, _), (50, _), (51, _), (52, _), (53, _), (54, _), (55, _), (56, _), (57, _), (60, _), (61, _), (62, _), (63, _), (64, _), (65, _), (66, _), (67, _), (68, _), (69, _), (70, _), (71, _), (72, _), (73, _), (74, _), (75, _), (76, _), (77, _), (78, _), (79, _), (80, _)]) ⟨rfl, rfl, rfl, rfl, rfl, rfl, rfl, rfl, rfl, rfl, rfl, rfl, rfl, rfl, rfl, rfl, rfl, rfl, rfl, rfl, rfl, rfl, rfl, rfl, rfl, rfl, rfl, rfl, rfl, rfl, rfl, rfl, rfl, rfl, rfl, rfl, rfl, rfl, rfl, rfl, rfl, rfl, rfl, rfl, rfl, rfl, rfl, rfl, rfl, rfl, rfl, rfl, rfl, rfl, rfl, rfl, rfl, rfl, rfl, rfl, rfl, trivial⟩ ?_;refine GE_plain (.st 0 (.st 1 (.ld 2 [] .nil))) rfl ?_;refine GT_st rfl rfl rfl rfl (V_move rfl rfl) ?_;refine GT_st rfl rfl rfl rfl (V_add rfl rfl rfl (wrap_i64 (by omega))) ?_;refine GT_ldv rfl rfl rfl rfl rfl (V_assign rfl rfl) (GR_nil) ?_;refine GT_nil ?_
                    exact GE_to (ih (i + 1) ⟨by omega, fun j hj => by rcases Nat.lt_or_ge j i with r | r; exact hps j r; rw [show j = i by omega]; unfold posOk; omega⟩ (by omega)) ⟨rfl, rfl, rfl, rfl, trivial⟩ HS.all
                · refine GT_skip rfl rfl rfl rfl rfl (by decide) rfl rfl ?_;refine GT_skip rfl rfl rfl rfl rfl (by decide) rfl rfl ?_;refine GT_skip rfl rfl rfl rfl rfl (by decide) rfl rfl ?_;refine GT_skip rfl rfl rfl rfl rfl (by decide) rfl rfl ?_;refine GT_skip rfl rfl rfl rfl rfl (by decide) rfl rfl ?_;refine GT_skip rfl rfl rfl rfl rfl (by decide) rfl rfl ?_;refine GT_skip rfl rfl rfl rfl rfl (by decide) rfl rfl ?_;refine GT_skip rfl rfl rfl rfl rfl (by decide) rfl rfl ?_;refine GT_skip rfl rfl rfl rfl rfl (by decide) rfl rfl ?_;refine GT_skip rfl rfl rfl rfl rfl (by decide) rfl rfl ?_;refine GT_skip rfl rfl rfl rfl rfl (by decide) rfl rfl ?_;refine GT_skip rfl rfl rfl rfl rfl (by decide) rfl rfl ?_;refine GT_skip rfl rfl rfl rfl rfl (by decide) rfl rfl ?_;refine GT_skip rfl rfl rfl rfl rfl (by decide) rfl rfl ?_;refine GT_skip_ld rfl rfl rfl rfl rfl (by decide) rfl rfl rfl (GR_skip rfl rfl rfl rfl rfl (by decide) rfl rfl (GR_skip rfl rfl rfl rfl rfl (by decide) rfl rfl (GR_skip rfl rfl rfl rfl rfl (by decide) rfl rfl (GR_skip rfl rfl rfl rfl rfl (by decide) rfl rfl (GR_skip rfl rfl rfl rfl rfl (by decide) rfl rfl (GR_skip rfl rfl rfl rfl rfl (by decide) rfl rfl (GR_skip rfl rfl rfl rfl rfl (by decide) rfl rfl (GR_skip rfl rfl rfl rfl rfl (by decide) rfl rfl (GR_skip rfl rfl rfl rfl rfl (by decide) rfl rfl (GR_nil)))))))))) ?_;refine GT_skip rfl rfl rfl rfl rfl (by decide) rfl rfl ?_;refine GT_skip rfl rfl rfl rfl rfl (by decide) rfl rfl ?_;refine GT_st_g rfl rfl rfl rfl rfl rfl rfl (V_pick_f rfl rfl rfl) ?_;refine GT_st rfl rfl rfl rfl (V_pick_f rfl rfl rfl) ?_;refine GT_nil ?_;refine GE_cond_f rfl ?_;refine GE_skip ?_;refine GE_inBlock ?_
                  refine GE_slots (L' := [(0, _), (3, _), (4, _), (5, _), (20, _), (21, _), (22, _), (23, _), (24, _), (27, _), (28, _), (29, _), (30, _), (31, _), (32, _), (33, _), (34, _), (35, _), (36, _), (37, _), (38, _), (39, _), (40, _), (41, _), (42, _), (43, _), (44, _), (45, _), (46, _), (47, _), (48, _), (49, _), (50, _), (51, _), (52, _), (53, _), (54, _), (55, _), (56, _), (57, _), (60, _), (61, _), (62, _), (63, _), (64, _), (65, _), (66, _), (67, _), (68, _), (69, _), (70, _), (71, _), (72, _), (73, _), (74, _), (75, _), (76, _), (77, _), (78, _), (79, _), (80, _)]) ⟨rfl, rfl, rfl, rfl, rfl, rfl, rfl, rfl, rfl, rfl, rfl, rfl, rfl, rfl, rfl, rfl, rfl, rfl, rfl, rfl, rfl, rfl, rfl, rfl, rfl, rfl, rfl, rfl, rfl, rfl, rfl, rfl, rfl, rfl, rfl, rfl, rfl, rfl, rfl, rfl, rfl, rfl, rfl, rfl, rfl, rfl, rfl, rfl, rfl, rfl, rfl, rfl, rfl, rfl, rfl, rfl, rfl, rfl, rfl, rfl, rfl, trivial⟩ ?_;refine GE_plain (.st 0 (.st 1 (.ld 2 [] .nil))) rfl ?_;refine GT_st rfl rfl rfl rfl (V_move rfl rfl) ?_;refine GT_st rfl rfl rfl rfl (V_add rfl rfl rfl (wrap_i64 (by omega))) ?_;refine GT_ldv rfl rfl rfl rfl rfl (V_assign rfl rfl) (GR_nil) ?_;refine GT_nil ?_
                  exact GE_to (ih (i + 1) ⟨by omega, fun j hj => by rcases Nat.lt_or_ge j i with r | r; exact hps j r; rw [show j = i by omega]; unfold posOk; omega⟩ (by omega)) ⟨rfl, rfl, rfl, rfl, trivial⟩ HS.all
          · refine GT_skip rfl rfl rfl rfl rfl (by decide) rfl rfl ?_;refine GT_skip rfl rfl rfl rfl rfl (by decide) rfl rfl ?_;refine GT_skip rfl rfl rfl rfl rfl (by decide) rfl rfl ?_;refine GT_skip rfl rfl rfl rfl rfl (by decide) rfl rfl ?_;refine GT_skip rfl rfl rfl rfl rfl (by decide) rfl rfl ?_;refine GT_skip rfl rfl rfl rfl rfl (by decide) rfl rfl ?_;refine GT_skip rfl rfl rfl rfl rfl (by decide) rfl rfl ?_;refine GT_skip rfl rfl rfl rfl rfl (by decide) rfl rfl ?_;refine GT_skip rfl rfl rfl rfl rfl (by decide) rfl rfl ?_;refine GT_skip_ld rfl rfl rfl rfl rfl (by decide) rfl rfl rfl (GR_skip rfl rfl rfl rfl rfl (by decide) rfl rfl (GR_skip rfl rfl rfl rfl rfl (by decide) rfl rfl (GR_skip rfl rfl rfl rfl rfl (by decide) rfl rfl (GR_skip rfl rfl rfl rfl rfl (by decide) rfl rfl (GR_skip rfl rfl rfl rfl rfl (by decide) rfl rfl (GR_nil)))))) ?_;refine GT_skip rfl rfl rfl rfl rfl (by decide) rfl rfl ?_;refine GT_skip rfl rfl rfl rfl rfl (by decide) rfl rfl ?_;refine GT_skip rfl rfl rfl rfl rfl (by decide) rfl rfl ?_;refine GT_skip rfl rfl rfl rfl rfl (by decide) rfl rfl ?_;refine GT_skip rfl rfl rfl rfl rfl (by decide) rfl rfl ?_;refine GT_skip rfl rfl rfl rfl rfl (by decide) rfl rfl ?_;refine GT_skip rfl rfl rfl rfl rfl (by decide) rfl rfl ?_;refine GT_skip rfl rfl rfl rfl rfl (by decide) rfl rfl ?_;refine GT_skip rfl rfl rfl rfl rfl (by decide) rfl rfl ?_;refine GT_skip rfl rfl rfl rfl rfl (by decide) rfl rfl ?_;refine GT_skip rfl rfl rfl rfl rfl (by decide) rfl rfl ?_;refine GT_skip rfl rfl rfl rfl rfl (by decide) rfl rfl ?_;refine GT_skip rfl rfl rfl rfl rfl (by decide) rfl rfl ?_
            refine GT_skip_ld rfl rfl rfl rfl rfl (by decide) rfl rfl rfl (GR_skip rfl rfl rfl rfl rfl (by decide) rfl rfl (GR_skip rfl rfl rfl rfl rfl (by decide) rfl rfl (GR_skip rfl rfl rfl rfl rfl (by decide) rfl rfl (GR_skip rfl rfl rfl rfl rfl (by decide) rfl rfl (GR_skip rfl rfl rfl rfl rfl (by decide) rfl rfl (GR_nil)))))) ?_;refine GT_skip rfl rfl rfl rfl rfl (by decide) rfl rfl ?_;refine GT_skip rfl rfl rfl rfl rfl (by decide) rfl rfl ?_;refine GT_skip rfl rfl rfl rfl rfl (by decide) rfl rfl ?_;refine GT_st_g rfl rfl rfl rfl rfl rfl rfl (V_pick_f rfl rfl rfl) ?_;refine GT_st rfl rfl rfl rfl (V_pick_f rfl rfl rfl) ?_;refine GT_st rfl rfl rfl rfl (V_move rfl rfl) ?_;refine GT_st_g rfl rfl rfl rfl rfl rfl rfl (V_move rfl rfl) ?_;refine GT_st_g rfl rfl rfl rfl rfl rfl rfl (V_gtr rfl rfl rfl) ?_;refine GT_st_g rfl rfl rfl rfl rfl rfl rfl (V_move rfl rfl) ?_;refine GT_split (d := 62) rfl (fun q7 => ?_) (fun q7 => ?_)
            · refine GT_st_g rfl rfl rfl rfl rfl rfl rfl (V_move rfl rfl) ?_;refine GT_st_g rfl rfl rfl rfl rfl rfl rfl (V_move rfl rfl) ?_;refine GT_st_g rfl rfl rfl rfl rfl rfl rfl (V_index rfl rfl rfl Tryz.underlying38 sz_3 (k := i) rfl hil (hy.isSome (k := i) (by omega))) ?_;refine GT_st_g rfl rfl rfl rfl rfl rfl rfl (V_load rfl rfl ag_3 (CellAt.own0 (k := i) hy eI_len (by omega) (by rw [bgns_get hil]; rfl))) ?_;refine GT_st_g rfl rfl rfl rfl rfl rfl rfl (V_move rfl rfl) ?_;refine GT_st_g rfl rfl rfl rfl rfl rfl rfl (V_move rfl rfl) ?_;refine GT_st_g rfl rfl rfl rfl rfl rfl rfl (V_sub rfl rfl rfl (wrap_i64 (by omega))) ?_;refine GT_st_g rfl rfl rfl rfl rfl rfl rfl (V_index rfl rfl rfl Tryz.underlying38 sz_3 (k := i - 2) (by omega) (by omega) (hy.isSome (k := i) (by omega))) ?_;refine GT_st_g rfl rfl rfl rfl rfl rfl rfl (V_load rfl rfl ag_3 (CellAt.own0 (k := i - 2) hy eI_len (by omega) (by rw [bgns_get (by omega)]; rfl))) ?_;refine GT_st_g rfl rfl rfl rfl rfl rfl rfl (V_move rfl rfl) ?_;refine GT_st_g rfl rfl rfl rfl rfl rfl rfl (V_move rfl rfl) ?_;refine GT_st_g rfl rfl rfl rfl rfl rfl rfl (V_sub rfl rfl rfl (wrap_i64 (by omega))) ?_;refine GT_st_g rfl rfl rfl rfl rfl rfl rfl (V_index rfl rfl rfl Tryz.underlying108 sz_124 (k := i - 2) (by omega) (by omega) (hp.isSome (k := i - 2) (by omega))) ?_;refine GT_st_g rfl rfl rfl rfl rfl rfl rfl (V_loadN (vs := [_, _, _, _, _, _, _]) rfl rfl ag_124 sz_124 rfl (show CellsAt _ _ _ (ePrt (pt p (i - 2))) from hp.ats noM (by omega))) ?_
              refine GT_call0_g rfl rfl rfl rfl rfl rfl rfl rfl rfl rfl rfl rn_149 (fun w hw => C_rLong (x := pt p (i - 2)) (by omega)) (GR_cons_g rfl rfl rfl rfl rfl rfl rfl (V_move rfl rfl) (GR_cons_g rfl rfl rfl rfl rfl rfl rfl (V_move rfl rfl) (GR_cons_g rfl rfl rfl rfl rfl rfl rfl (V_index rfl rfl rfl Tryz.underlying38 sz_3 (k := i) rfl hil (hy.isSome (k := i) (by omega))) (GR_cons_g rfl rfl rfl rfl rfl rfl rfl (V_load rfl rfl ag_3 (CellAt.own0 (k := i) hy eI_len (by omega) (by rw [bgns_get hil]; rfl))) (GR_cons_g rfl rfl rfl rfl rfl rfl rfl (V_move rfl rfl) (GR_cons_g rfl rfl rfl rfl rfl rfl rfl (V_move rfl rfl) (GR_cons_g rfl rfl rfl rfl rfl rfl rfl (V_sub rfl rfl rfl (wrap_i64 (by omega))) (GR_cons_g rfl rfl rfl rfl rfl rfl rfl (V_index rfl rfl rfl Tryz.underlying38 sz_3 (k := i - 2) (by omega) (by omega) (hy.isSome (k := i) (by omega))) (GR_cons_g rfl rfl rfl rfl rfl rfl rfl (V_load rfl rfl ag_3 (CellAt.own0 (k := i - 2) hy eI_len (by omega) (by rw [bgns_get (by omega)]; rfl))) (GR_nil)))))))))) ?_;refine GT_st_g rfl rfl rfl rfl rfl rfl rfl (V_add rfl rfl rfl (wrap_i64 (by omega))) ?_;refine GT_st_g rfl rfl rfl rfl rfl rfl rfl (V_lss rfl rfl rfl) ?_;refine GT_st_g rfl rfl rfl rfl rfl rfl rfl (V_pick_t rfl rfl rfl) ?_;refine GT_st rfl rfl rfl rfl (V_pick_f rfl rfl rfl) ?_;refine GT_nil ?_;refine GE_cond rfl (fun q8 => ?_) (fun q8 => ?_)
              · refine GE_seq ?_;refine GE_slots (L' := []) trivial ?_;refine GE_plain (.st 0 .nil) rfl ?_;refine GT_st rfl rfl rfl rfl (V_assign rfl rfl) ?_;refine GT_nil ?_;refine GE_ret Tryz.func93 rfl (fun w hw => ⟨?_, hw.nil⟩)
                rw [decide_eq_false]; intro hP; have := hP.1 i hil; unfold posOk at this; omega
              · refine GE_skip ?_;refine GE_inBlock ?_;refine GE_slots (L' := [(0, _), (3, _), (4, _), (5, _), (20, _), (21, _), (22, _), (23, _), (24, _), (27, _), (28, _), (29, _), (30, _), (31, _), (32, _), (33, _), (34, _), (35, _), (36, _), (37, _), (38, _), (39, _), (40, _), (41, _), (42, _), (43, _), (44, _), (45, _), (46, _), (47, _), (48, _), (49, _), (50, _), (51, _), (52, _), (53, _), (54, _), (55, _), (56, _), (57, _), (60, _), (61, _), (62, _), (63, _), (64, _), (65, _), (66, _), (67, _), (68, _), (69, _), (70, _), (71, _), (72, _), (73, _), (74, _), (75, _), (76, _), (77, _), (78, _), (79, _), (80, _)]) ⟨rfl, rfl, rfl, rfl, rfl, rfl, rfl, rfl, rfl, rfl, rfl, rfl, rfl, rfl, rfl, rfl, rfl, rfl, rfl, rfl, rfl, rfl, rfl, rfl, rfl, rfl, rfl, rfl, rfl, rfl, rfl, rfl, rfl, rfl, rfl, rfl, rfl, rfl, rfl, rfl, rfl, rfl, rfl, rfl, rfl, rfl, rfl, rfl, rfl, rfl, rfl, rfl, rfl, rfl, rfl, rfl, rfl, rfl, rfl, rfl, rfl, trivial⟩ ?_;refine GE_plain (.st 0 (.st 1 (.ld 2 [] .nil))) rfl ?_;refine GT_st rfl rfl rfl rfl (V_move rfl rfl) ?_;refine GT_st rfl rfl rfl rfl (V_add rfl rfl rfl (wrap_i64 (by omega))) ?_;refine GT_ldv rfl rfl rfl rfl rfl (V_assign rfl rfl) (GR_nil) ?_;refine GT_nil ?_
                exact GE_to (ih (i + 1) ⟨by omega, fun j hj => by rcases Nat.lt_or_ge j i with r | r; exact hps j r; rw [show j = i by omega]; unfold posOk; omega⟩ (by omega)) ⟨rfl, rfl, rfl, rfl, trivial⟩ HS.all
            · refine GT_skip rfl rfl rfl rfl rfl (by decide) rfl rfl ?_;refine GT_skip rfl rfl rfl rfl rfl (by decide) rfl rfl ?_;refine GT_skip rfl rfl rfl rfl rfl (by decide) rfl rfl ?_;refine GT_skip rfl rfl rfl rfl rfl (by decide) rfl rfl ?_;refine GT_skip rfl rfl rfl rfl rfl (by decide) rfl rfl ?_;refine GT_skip rfl rfl rfl rfl rfl (by decide) rfl rfl ?_;refine GT_skip rfl rfl rfl rfl rfl (by decide) rfl rfl ?_;refine GT_skip rfl rfl rfl rfl rfl (by decide) rfl rfl ?_;refine GT_skip rfl rfl rfl rfl rfl (by decide) rfl rfl ?_;refine GT_skip rfl rfl rfl rfl rfl (by decide) rfl rfl ?_;refine GT_skip rfl rfl rfl rfl rfl (by decide) rfl rfl ?_;refine GT_skip rfl rfl rfl rfl rfl (by decide) rfl rfl ?_;refine GT_skip rfl rfl rfl rfl rfl (by decide) rfl rfl ?_;refine GT_skip rfl rfl rfl rfl rfl (by decide) rfl rfl ?_;refine GT_skip_ld rfl rfl rfl rfl rfl (by decide) rfl rfl rfl (GR_skip rfl rfl rfl rfl rfl (by decide) rfl rfl (GR_skip rfl rfl rfl rfl rfl (by decide) rfl rfl (GR_skip rfl rfl rfl rfl rfl (by decide) rfl rfl (GR_skip rfl rfl rfl rfl rfl (by decide) rfl rfl (GR_skip rfl rfl rfl rfl rfl (by decide) rfl rfl (GR_skip rfl rfl rfl rfl rfl (by decide) rfl rfl (GR_skip rfl rfl rfl rfl rfl (by decide) rfl rfl (GR_skip rfl rfl rfl rfl rfl (by decide) rfl rfl (GR_skip rfl rfl rfl rfl rfl (by decide) rfl rfl (GR_nil)))))))))) ?_;refine GT_skip rfl rfl rfl rfl rfl (by decide) rfl rfl ?_;refine GT_skip rfl rfl rfl rfl rfl (by decide) rfl rfl ?_;refine GT_st_g rfl rfl rfl rfl rfl rfl rfl (V_pick_f rfl rfl rfl) ?_;refine GT_st rfl rfl rfl rfl (V_pick_f rfl rfl rfl) ?_;refine GT_nil ?_;refine GE_cond_f rfl ?_;refine GE_skip ?_;refine GE_inBlock ?_
              refine GE_slots (L' := [(0, _), (3, _), (4, _), (5, _), (20, _), (21, _), (22, _), (23, _), (24, _), (27, _), (28, _), (29, _), (30, _), (31, _), (32, _), (33, _), (34, _), (35, _), (36, _), (37, _), (38, _), (39, _), (40, _), (41, _), (42, _), (43, _), (44, _), (45, _), (46, _), (47, _), (48, _), (49, _), (50, _), (51, _), (52, _), (53, _), (54, _), (55, _), (56, _), (57, _), (60, _), (61, _), (62, _), (63, _), (64, _), (65, _), (66, _), (67, _), (68, _), (69, _), (70, _), (71, _), (72, _), (73, _), (74, _), (75, _), (76, _), (77, _), (78, _), (79, _), (80, _)]) ⟨rfl, rfl, rfl, rfl, rfl, rfl, rfl, rfl, rfl, rfl, rfl, rfl, rfl, rfl, rfl, rfl, rfl, rfl, rfl, rfl, rfl, rfl, rfl, rfl, rfl, rfl, rfl, rfl, rfl, rfl, rfl, rfl, rfl, rfl, rfl, rfl, rfl, rfl, rfl, rfl, rfl, rfl, rfl, rfl, rfl, rfl, rfl, rfl, rfl, rfl, rfl, rfl, rfl, rfl, rfl, rfl, rfl, rfl, rfl, rfl, rfl, trivial⟩ ?_;refine GE_plain (.st 0 (.st 1 (.ld 2 [] .nil))) rfl ?_;refine GT_st rfl rfl rfl rfl (V_move rfl rfl) ?_;refine GT_st rfl rfl rfl rfl (V_add rfl rfl rfl (wrap_i64 (by omega))) ?_;refine GT_ldv rfl rfl rfl rfl rfl (V_assign rfl rfl) (GR_nil) ?_;refine GT_nil ?_
              exact GE_to (ih (i + 1) ⟨by omega, fun j hj => by rcases Nat.lt_or_ge j i with r | r; exact hps j r; rw [show j = i by omega]; unfold posOk; omega⟩ (by omega)) ⟨rfl, rfl, rfl, rfl, trivial⟩ HS.all
      · refine GT_skip rfl rfl rfl rfl rfl (by decide) rfl rfl ?_;refine GT_skip rfl rfl rfl rfl rfl (by decide) rfl rfl ?_;refine GT_skip rfl rfl rfl rfl rfl (by decide) rfl rfl ?_;refine GT_skip rfl rfl rfl rfl rfl (by decide) rfl rfl ?_;refine GT_skip rfl rfl rfl rfl rfl (by decide) rfl rfl ?_;refine GT_st rfl rfl rfl rfl (V_pick_f rfl rfl rfl) ?_;refine GT_st rfl rfl rfl rfl (V_move rfl rfl) ?_;refine GT_st_g rfl rfl rfl rfl rfl rfl rfl (V_move rfl rfl) ?_;refine GT_st_g rfl rfl rfl rfl rfl rfl rfl (V_gtr rfl rfl rfl) ?_;refine GT_st_g rfl rfl rfl rfl rfl rfl rfl (V_move rfl rfl) ?_;refine GT_split (d := 29) rfl (fun q4 => ?_) (fun q4 => ?_)
        · refine GT_st_g rfl rfl rfl rfl rfl rfl rfl (V_move rfl rfl) ?_;refine GT_st_g rfl rfl rfl rfl rfl rfl rfl (V_move rfl rfl) ?_;refine GT_st_g rfl rfl rfl rfl rfl rfl rfl (V_index rfl rfl rfl Tryz.underlying108 sz_124 (k := i) rfl hil (hp.isSome hil)) ?_;refine GT_st_g rfl rfl rfl rfl rfl rfl rfl (V_fieldA rfl rfl fo_124_3) ?_;refine GT_st_g rfl rfl rfl rfl rfl rfl rfl (V_load rfl rfl ag_3 (hp.at1 noM hil (show _ = some (I (pt p i).gap) from rfl))) ?_;refine GT_st_g rfl rfl rfl rfl rfl rfl rfl (V_move rfl rfl) ?_;refine GT_st_g rfl rfl rfl rfl rfl rfl rfl (V_move rfl rfl) ?_;refine GT_st_g rfl rfl rfl rfl rfl rfl rfl (V_index rfl rfl rfl Tryz.underlying108 sz_124 (k := i) rfl hil (hp.isSome hil)) ?_;refine GT_st_g rfl rfl rfl rfl rfl rfl rfl (V_loadN (vs := [_, _, _, _, _, _, _]) rfl rfl ag_124 sz_124 rfl (show CellsAt _ _ _ (ePrt (pt p i)) from hp.ats noM hil)) ?_;refine GT_call0_g rfl rfl rfl rfl rfl rfl rfl rfl rfl rfl rfl rn_149 (fun w hw => C_rLong (x := pt p i) (by omega)) (GR_cons_g rfl rfl rfl rfl rfl rfl rfl (V_move rfl rfl) (GR_cons_g rfl rfl rfl rfl rfl rfl rfl (V_move rfl rfl) (GR_cons_g rfl rfl rfl rfl rfl rfl rfl (V_index rfl rfl rfl Tryz.underlying108 sz_124 (k := i) rfl hil (hp.isSome hil)) (GR_cons_g rfl rfl rfl rfl rfl rfl rfl ((by first | exact V_field rfl rfl fo_124_3 | exact V_fieldA rfl rfl fo_124_3)) (GR_cons_g rfl rfl rfl rfl rfl rfl rfl (V_load rfl rfl ag_3 (hp.at1 noM hil (show _ = some (I (pt p i).gap) from rfl))) (GR_nil)))))) ?_;refine GT_st_g rfl rfl rfl rfl rfl rfl rfl (V_neg rfl rfl (wrap_i64 (by omega))) ?_;refine GT_st_g rfl rfl rfl rfl rfl rfl rfl (V_lss rfl rfl rfl) ?_;refine GT_st_g rfl rfl rfl rfl rfl rfl rfl (V_move rfl rfl) ?_;refine GT_split (d := 42) rfl (fun q5 => ?_) (fun q5 => ?_)
          · refine GT_skip rfl rfl rfl rfl rfl (by decide) rfl rfl ?_;refine GT_skip rfl rfl rfl rfl rfl (by decide) rfl rfl ?_;refine GT_skip rfl rfl rfl rfl rfl (by decide) rfl rfl ?_;refine GT_skip rfl rfl rfl rfl rfl (by decide) rfl rfl ?_;refine GT_skip rfl rfl rfl rfl rfl (by decide) rfl rfl ?_;refine GT_skip rfl rfl rfl rfl rfl (by decide) rfl rfl ?_;refine GT_skip rfl rfl rfl rfl rfl (by decide) rfl rfl ?_;refine GT_skip rfl rfl rfl rfl rfl (by decide) rfl rfl ?_;refine GT_skip rfl rfl rfl rfl rfl (by decide) rfl rfl ?_;refine GT_skip rfl rfl rfl rfl rfl (by decide) rfl rfl ?_;refine GT_skip_ld rfl rfl rfl rfl rfl (by decide) rfl rfl rfl (GR_skip rfl rfl rfl rfl rfl (by decide) rfl rfl (GR_skip rfl rfl rfl rfl rfl (by decide) rfl rfl (GR_skip rfl rfl rfl rfl rfl (by decide) rfl rfl (GR_skip rfl rfl rfl rfl rfl (by decide) rfl rfl (GR_skip rfl rfl rfl rfl rfl (by decide) rfl rfl (GR_nil)))))) ?_;refine GT_skip rfl rfl rfl rfl rfl (by decide) rfl rfl ?_;refine GT_skip rfl rfl rfl rfl rfl (by decide) rfl rfl ?_;refine GT_st_g rfl rfl rfl rfl rfl rfl rfl (V_pick_t rfl rfl rfl) ?_;refine GT_st_g rfl rfl rfl rfl rfl rfl rfl (V_pick_t rfl rfl rfl) ?_;refine GT_st rfl rfl rfl rfl (V_pick_f rfl rfl rfl) ?_;refine GT_st rfl rfl rfl rfl (V_move rfl rfl) ?_;refine GT_skip rfl rfl rfl rfl rfl (by decide) rfl rfl ?_;refine GT_skip rfl rfl rfl rfl rfl (by decide) rfl rfl ?_;refine GT_skip rfl rfl rfl rfl rfl (by decide) rfl rfl ?_;refine GT_skip rfl rfl rfl rfl rfl (by decide) rfl rfl ?_;refine GT_skip rfl rfl rfl rfl rfl (by decide) rfl rfl ?_;refine GT_skip rfl rfl rfl rfl rfl (by decide) rfl rfl ?_;refine GT_skip rfl rfl rfl rfl rfl (by decide) rfl rfl ?_;refine GT_skip rfl rfl rfl rfl rfl (by decide) rfl rfl ?_;refine GT_skip rfl rfl rfl rfl rfl (by decide) rfl rfl ?_
            refine GT_skip rfl rfl rfl rfl rfl (by decide) rfl rfl ?_;refine GT_skip rfl rfl rfl rfl rfl (by decide) rfl rfl ?_;refine GT_skip rfl rfl rfl rfl rfl (by decide) rfl rfl ?_;refine GT_skip rfl rfl rfl rfl rfl (by decide) rfl rfl ?_;refine GT_skip rfl rfl rfl rfl rfl (by decide) rfl rfl ?_;refine GT_skip rfl rfl rfl rfl rfl (by decide) rfl rfl ?_;refine GT_skip rfl rfl rfl rfl rfl (by decide) rfl rfl ?_;refine GT_skip rfl rfl rfl rfl rfl (by decide) rfl rfl ?_;refine GT_skip_ld rfl rfl rfl rfl rfl (by decide) rfl rfl rfl (GR_skip rfl rfl rfl rfl rfl (by decide) rfl rfl (GR_skip rfl rfl rfl rfl rfl (by decide) rfl rfl (GR_skip rfl rfl rfl rfl rfl (by decide) rfl rfl (GR_skip rfl rfl rfl rfl rfl (by decide) rfl rfl (GR_skip rfl rfl rfl rfl rfl (by decide) rfl rfl (GR_skip rfl rfl rfl rfl rfl (by decide) rfl rfl (GR_skip rfl rfl rfl rfl rfl (by decide) rfl rfl (GR_skip rfl rfl rfl rfl rfl (by decide) rfl rfl (GR_skip rfl rfl rfl rfl rfl (by decide) rfl rfl (GR_nil)))))))))) ?_;refine GT_skip rfl rfl rfl rfl rfl (by decide) rfl rfl ?_;refine GT_skip rfl rfl rfl rfl rfl (by decide) rfl rfl ?_;refine GT_skip rfl rfl rfl rfl rfl (by decide) rfl rfl ?_;refine GT_st rfl rfl rfl rfl (V_pick_t rfl rfl rfl) ?_;refine GT_nil ?_;refine GE_cond_t rfl ?_;refine GE_seq ?_;refine GE_slots (L' := []) trivial ?_;refine GE_plain (.st 0 .nil) rfl ?_;refine GT_st rfl rfl rfl rfl (V_assign rfl rfl) ?_;refine GT_nil ?_;refine GE_ret Tryz.func93 rfl (fun w hw => ⟨?_, hw.nil⟩)
            first | (rw [decide_eq_false]; intro hP; have := hP.1 i hil; unfold posOk at this; omega) | (refine congrArg Value.bool (decide_eq_decide.2 ⟨fun h => ⟨fun j hj => hps j (by omega), h⟩, fun h => h.2⟩))
          · refine GT_st_g rfl rfl rfl rfl rfl rfl rfl (V_move rfl rfl) ?_;refine GT_st_g rfl rfl rfl rfl rfl rfl rfl (V_move rfl rfl) ?_;refine GT_st_g rfl rfl rfl rfl rfl rfl rfl (V_index rfl rfl rfl Tryz.underlying108 sz_124 (k := i) rfl hil (hp.isSome hil)) ?_;refine GT_st_g rfl rfl rfl rfl rfl rfl rfl (V_fieldA rfl rfl fo_124_3) ?_;refine GT_st_g rfl rfl rfl rfl rfl rfl rfl (V_load rfl rfl ag_3 (hp.at1 noM hil (show _ = some (I (pt p i).gap) from rfl))) ?_;refine GT_st_g rfl rfl rfl rfl rfl rfl rfl (V_move rfl rfl) ?_;refine GT_st_g rfl rfl rfl rfl rfl rfl rfl (V_move rfl rfl) ?_;refine GT_st_g rfl rfl rfl rfl rfl rfl rfl (V_sub rfl rfl rfl (wrap_i64 (by omega))) ?_;refine GT_st_g rfl rfl rfl rfl rfl rfl rfl (V_index rfl rfl rfl Tryz.underlying108 sz_124 (k := i - 1) (by omega) (by omega) (hp.isSome (k := i - 1) (by omega))) ?_;refine GT_st_g rfl rfl rfl rfl rfl rfl rfl (V_loadN (vs := [_, _, _, _, _, _, _]) rfl rfl ag_124 sz_124 rfl (show CellsAt _ _ _ (ePrt (pt p (i - 1))) from hp.ats noM (by omega))) ?_;refine GT_call0_g rfl rfl rfl rfl rfl rfl rfl rfl rfl rfl rfl rn_149 (fun w hw => C_rLong (x := pt p (i - 1)) (by omega)) (GR_cons_g rfl rfl rfl rfl rfl rfl rfl (V_move rfl rfl) (GR_cons_g rfl rfl rfl rfl rfl rfl rfl (V_move rfl rfl) (GR_cons_g rfl rfl rfl rfl rfl rfl rfl (V_index rfl rfl rfl Tryz.underlying108 sz_124 (k := i) rfl hil (hp.isSome hil)) (GR_cons_g rfl rfl rfl rfl rfl rfl rfl ((by first | exact V_field rfl rfl fo_124_3 | exact V_fieldA rfl rfl fo_124_3)) (GR_cons_g rfl rfl rfl rfl rfl rfl rfl (V_load rfl rfl ag_3 (hp.at1 noM hil (show _ = some (I (pt p i).gap) from rfl))) (GR_nil)))))) ?_;refine GT_st_g rfl rfl rfl rfl rfl rfl rfl (V_neg rfl rfl (wrap_i64 (by omega))) ?_;refine GT_st_g rfl rfl rfl rfl rfl rfl rfl (V_lss rfl rfl rfl) ?_
            refine GT_st_g rfl rfl rfl rfl rfl rfl rfl (V_pick_f rfl rfl rfl) ?_;refine GT_st_g rfl rfl rfl rfl rfl rfl rfl (V_pick_t rfl rfl rfl) ?_;refine GT_st rfl rfl rfl rfl (V_pick_f rfl rfl rfl) ?_;refine GT_st rfl rfl rfl rfl (V_move rfl rfl) ?_;refine GT_split (d := 59) rfl (fun q6 => ?_) (fun q6 => ?_)
            · refine GT_skip rfl rfl rfl rfl rfl (by decide) rfl rfl ?_;refine GT_skip rfl rfl rfl rfl rfl (by decide) rfl rfl ?_;refine GT_skip rfl rfl rfl rfl rfl (by decide) rfl rfl ?_;refine GT_skip rfl rfl rfl rfl rfl (by decide) rfl rfl ?_;refine GT_skip rfl rfl rfl rfl rfl (by decide) rfl rfl ?_;refine GT_skip rfl rfl rfl rfl rfl (by decide) rfl rfl ?_;refine GT_skip rfl rfl rfl rfl rfl (by decide) rfl rfl ?_;refine GT_skip rfl rfl rfl rfl rfl (by decide) rfl rfl ?_;refine GT_skip rfl rfl rfl rfl rfl (by decide) rfl rfl ?_;refine GT_skip rfl rfl rfl rfl rfl (by decide) rfl rfl ?_;refine GT_skip rfl rfl rfl rfl rfl (by decide) rfl rfl ?_;refine GT_skip rfl rfl rfl rfl rfl (by decide) rfl rfl ?_;refine GT_skip rfl rfl rfl rfl rfl (by decide) rfl rfl ?_;refine GT_skip rfl rfl rfl rfl rfl (by decide) rfl rfl ?_;refine GT_skip rfl rfl rfl rfl rfl (by decide) rfl rfl ?_;refine GT_skip rfl rfl rfl rfl rfl (by decide) rfl rfl ?_;refine GT_skip rfl rfl rfl rfl rfl (by decide) rfl rfl ?_;refine GT_skip_ld rfl rfl rfl rfl rfl (by decide) rfl rfl rfl (GR_skip rfl rfl rfl rfl rfl (by decide) rfl rfl (GR_skip rfl rfl rfl rfl rfl (by decide) rfl rfl (GR_skip rfl rfl rfl rfl rfl (by decide) rfl rfl (GR_skip rfl rfl rfl rfl rfl (by decide) rfl rfl (GR_skip rfl rfl rfl rfl rfl (by decide) rfl rfl (GR_skip rfl rfl rfl rfl rfl (by decide) rfl rfl (GR_skip rfl rfl rfl rfl rfl (by decide) rfl rfl (GR_skip rfl rfl rfl rfl rfl (by decide) rfl rfl (GR_skip rfl rfl rfl rfl rfl (by decide) rfl rfl (GR_nil)))))))))) ?_;refine GT_skip rfl rfl rfl rfl rfl (by decide) rfl rfl ?_;refine GT_skip rfl rfl rfl rfl rfl (by decide) rfl rfl ?_;refine GT_skip rfl rfl rfl rfl rfl (by decide) rfl rfl ?_;refine GT_st rfl rfl rfl rfl (V_pick_t rfl rfl rfl) ?_;refine GT_nil ?_;refine GE_cond_t rfl ?_
              refine GE_seq ?_;refine GE_slots (L' := []) trivial ?_;refine GE_plain (.st 0 .nil) rfl ?_;refine GT_st rfl rfl rfl rfl (V_assign rfl rfl) ?_;refine GT_nil ?_;refine GE_ret Tryz.func93 rfl (fun w hw => ⟨?_, hw.nil⟩)
              first | (rw [decide_eq_false]; intro hP; have := hP.1 i hil; unfold posOk at this; omega) | (refine congrArg Value.bool (decide_eq_decide.2 ⟨fun h => ⟨fun j hj => hps j (by omega), h⟩, fun h => h.2⟩))
            · refine GT_st_g rfl rfl rfl rfl rfl rfl rfl (V_move rfl rfl) ?_;refine GT_st_g rfl rfl rfl rfl rfl rfl rfl (V_gtr rfl rfl rfl) ?_;refine GT_st_g rfl rfl rfl rfl rfl rfl rfl (V_move rfl rfl) ?_;refine GT_split (d := 62) rfl (fun q7 => ?_) (fun q7 => ?_)
              · refine GT_st_g rfl rfl rfl rfl rfl rfl rfl (V_move rfl rfl) ?_;refine GT_st_g rfl rfl rfl rfl rfl rfl rfl (V_move rfl rfl) ?_;refine GT_st_g rfl rfl rfl rfl rfl rfl rfl (V_index rfl rfl rfl Tryz.underlying38 sz_3 (k := i) rfl hil (hy.isSome (k := i) (by omega))) ?_;refine GT_st_g rfl rfl rfl rfl rfl rfl rfl (V_load rfl rfl ag_3 (CellAt.own0 (k := i) hy eI_len (by omega) (by rw [bgns_get hil]; rfl))) ?_;refine GT_st_g rfl rfl rfl rfl rfl rfl rfl (V_move rfl rfl) ?_;refine GT_st_g rfl rfl rfl rfl rfl rfl rfl (V_move rfl rfl) ?_;refine GT_st_g rfl rfl rfl rfl rfl rfl rfl (V_sub rfl rfl rfl (wrap_i64 (by omega))) ?_;refine GT_st_g rfl rfl rfl rfl rfl rfl rfl (V_index rfl rfl rfl Tryz.underlying38 sz_3 (k := i - 2) (by omega) (by omega) (hy.isSome (k := i) (by omega))) ?_;refine GT_st_g rfl rfl rfl rfl rfl rfl rfl (V_load rfl rfl ag_3 (CellAt.own0 (k := i - 2) hy eI_len (by omega) (by rw [bgns_get (by omega)]; rfl))) ?_;refine GT_st_g rfl rfl rfl rfl rfl rfl rfl (V_move rfl rfl) ?_;refine GT_st_g rfl rfl rfl rfl rfl rfl rfl (V_move rfl rfl) ?_;refine GT_st_g rfl rfl rfl rfl rfl rfl rfl (V_sub rfl rfl rfl (wrap_i64 (by omega))) ?_;refine GT_st_g rfl rfl rfl rfl rfl rfl rfl (V_index rfl rfl rfl Tryz.underlying108 sz_124 (k := i - 2) (by omega) (by omega) (hp.isSome (k := i - 2) (by omega))) ?_;refine GT_st_g rfl rfl rfl rfl rfl rfl rfl (V_loadN (vs := [_, _, _, _, _, _, _]) rfl rfl ag_124 sz_124 rfl (show CellsAt _ _ _ (ePrt (pt p (i - 2))) from hp.ats noM (by omega))) ?_
                refine GT_call0_g rfl rfl rfl rfl rfl rfl rfl rfl rfl rfl rfl rn_149 (fun w hw => C_rLong (x := pt p (i - 2)) (by omega)) (GR_cons_g rfl rfl rfl rfl rfl rfl rfl (V_move rfl rfl) (GR_cons_g rfl rfl rfl rfl rfl rfl rfl (V_move rfl rfl) (GR_cons_g rfl rfl rfl rfl rfl rfl rfl (V_index rfl rfl rfl Tryz.underlying38 sz_3 (k := i) rfl hil (hy.isSome (k := i) (by omega))) (GR_cons_g rfl rfl rfl rfl rfl rfl rfl (V_load rfl rfl ag_3 (CellAt.own0 (k := i) hy eI_len (by omega) (by rw [bgns_get hil]; rfl))) (GR_cons_g rfl rfl rfl rfl rfl rfl rfl (V_move rfl rfl) (GR_cons_g rfl rfl rfl rfl rfl rfl rfl (V_move rfl rfl) (GR_cons_g rfl rfl rfl rfl rfl rfl rfl (V_sub rfl rfl rfl (wrap_i64 (by omega))) (GR_cons_g rfl rfl rfl rfl rfl rfl rfl (V_index rfl rfl rfl Tryz.underlying38 sz_3 (k := i - 2) (by omega) (by omega) (hy.isSome (k := i) (by omega))) (GR_cons_g rfl rfl rfl rfl rfl rfl rfl (V_load rfl rfl ag_3 (CellAt.own0 (k := i - 2) hy eI_len (by omega) (by rw [bgns_get (by omega)]; rfl))) (GR_nil)))))))))) ?_;refine GT_st_g rfl rfl rfl rfl rfl rfl rfl (V_add rfl rfl rfl (wrap_i64 (by omega))) ?_;refine GT_st_g rfl rfl rfl rfl rfl rfl rfl (V_lss rfl rfl rfl) ?_;refine GT_st_g rfl rfl rfl rfl rfl rfl rfl (V_pick_t rfl rfl rfl) ?_;refine GT_st rfl rfl rfl rfl (V_pick_f rfl rfl rfl) ?_;refine GT_nil ?_;refine GE_cond rfl (fun q8 => ?_) (fun q8 => ?_)
                · refine GE_seq ?_;refine GE_slots (L' := []) trivial ?_;refine GE_plain (.st 0 .nil) rfl ?_;refine GT_st rfl rfl rfl rfl (V_assign rfl rfl) ?_;refine GT_nil ?_;refine GE_ret Tryz.func93 rfl (fun w hw => ⟨?_, hw.nil⟩)
                  rw [decide_eq_false]; intro hP; have := hP.1 i hil; unfold posOk at this; omega
                · refine GE_skip ?_;refine GE_inBlock ?_;refine GE_slots (L' := [(0, _), (3, _), (4, _), (5, _), (20, _), (21, _), (22, _), (23, _), (24, _), (27, _), (28, _), (29, _), (30, _), (31, _), (32, _), (33, _), (34, _), (35, _), (36, _), (37, _), (38, _), (39, _), (40, _), (41, _), (42, _), (43, _), (44, _), (45, _), (46, _), (47, _), (48, _), (49, _), (50, _), (51, _), (52, _), (53, _), (54, _), (55, _), (56, _), (57, _), (60, _), (61, _), (62, _), (63, _), (64, _), (65, _), (66, _), (67, _), (68, _), (69, _), (70, _), (71, _), (72, _), (73, _), (74, _), (75, _), (76, _), (77, _), (78, _), (79, _), (80, _)]) ⟨rfl, rfl, rfl, rfl, rfl, rfl, rfl, rfl, rfl, rfl, rfl, rfl, rfl, rfl, rfl, rfl, rfl, rfl, rfl, rfl, rfl, rfl, rfl, rfl, rfl, rfl, rfl, rfl, rfl, rfl, rfl, rfl, rfl, rfl, rfl, rfl, rfl, rfl, rfl, rfl, rfl, rfl, rfl, rfl, rfl, rfl, rfl, rfl, rfl, rfl, rfl, rfl, rfl, rfl, rfl, rfl, rfl, rfl, rfl, rfl, rfl, trivial⟩ ?_;refine GE_plain (.st 0 (.st 1 (.ld 2 [] .nil))) rfl ?_;refine GT_st rfl rfl rfl rfl (V_move rfl rfl) ?_;refine GT_st rfl rfl rfl rfl (V_add rfl rfl rfl (wrap_i64 (by omega))) ?_;refine GT_ldv rfl rfl rfl rfl rfl (V_assign rfl rfl) (GR_nil) ?_;refine GT_nil ?_
                  exact GE_to (ih (i + 1) ⟨by omega, fun j hj => by rcases Nat.lt_or_ge j i with r | r; exact hps j r; rw [show j = i by omega]; unfold posOk; omega⟩ (by omega)) ⟨rfl, rfl, rfl, rfl, trivial⟩ HS.all
              · refine GT_skip rfl rfl rfl rfl rfl (by decide) rfl rfl ?_;refine GT_skip rfl rfl rfl rfl rfl (by decide) rfl rfl ?_;refine GT_skip rfl rfl rfl rfl rfl (by decide) rfl rfl ?_;refine GT_skip rfl rfl rfl rfl rfl (by decide) rfl rfl ?_;refine GT_skip rfl rfl rfl rfl rfl (by decide) rfl rfl ?_;refine GT_skip rfl rfl rfl rfl rfl (by decide) rfl rfl ?_;refine GT_skip rfl rfl rfl rfl rfl (by decide) rfl rfl ?_;refine GT_skip rfl rfl rfl rfl rfl (by decide) rfl rfl ?_;refine GT_skip rfl rfl rfl rfl rfl (by decide) rfl rfl ?_;refine GT_skip rfl rfl rfl rfl rfl (by decide) rfl rfl ?_;refine GT_skip rfl rfl rfl rfl rfl (by decide) rfl rfl ?_;refine GT_skip rfl rfl rfl rfl rfl (by decide) rfl rfl ?_;refine GT_skip rfl rfl rfl rfl rfl (by decide) rfl rfl ?_;refine GT_skip rfl rfl rfl rfl rfl (by decide) rfl rfl ?_;refine GT_skip_ld rfl rfl rfl rfl rfl (by decide) rfl rfl rfl (GR_skip rfl rfl rfl rfl rfl (by decide) rfl rfl (GR_skip rfl rfl rfl rfl rfl (by decide) rfl rfl (GR_skip rfl rfl rfl rfl rfl (by decide) rfl rfl (GR_skip rfl rfl rfl rfl rfl (by decide) rfl rfl (GR_skip rfl rfl rfl rfl rfl (by decide) rfl rfl (GR_skip rfl rfl rfl rfl rfl (by decide) rfl rfl (GR_skip rfl rfl rfl rfl rfl (by decide) rfl rfl (GR_skip rfl rfl rfl rfl rfl (by decide) rfl rfl (GR_skip rfl rfl rfl rfl rfl (by decide) rfl rfl (GR_nil)))))))))) ?_;refine GT_skip rfl rfl rfl rfl rfl (by decide) rfl rfl ?_;refine GT_skip rfl rfl rfl rfl rfl (by decide) rfl rfl ?_;refine GT_st_g rfl rfl rfl rfl rfl rfl rfl (V_pick_f rfl rfl rfl) ?_;refine GT_st rfl rfl rfl rfl (V_pick_f rfl rfl rfl) ?_;refine GT_nil ?_;refine GE_cond_f rfl ?_;refine GE_skip ?_;refine GE_inBlock ?_
                refine GE_slots (L' := [(0, _), (3, _), (4, _), (5, _), (20, _), (21, _), (22, _), (23, _), (24, _), (27, _), (28, _), (29, _), (30, _), (31, _), (32, _), (33, _), (34, _), (35, _), (36, _), (37, _), (38, _), (39, _), (40, _), (41, _), (42, _), (43, _), (44, _), (45, _), (46, _), (47, _), (48, _), (49, _), (50, _), (51, _), (52, _), (53, _), (54, _), (55, _), (56, _), (57, _), (60, _), (61, _), (62, _), (63, _), (64, _), (65, _), (66, _), (67, _), (68, _), (69, _), (70, _), (71, _), (72, _), (73, _), (74, _), (75, _), (76, _), (77, _), (78, _), (79, _), (80, _)]) ⟨rfl, rfl, rfl, rfl, rfl, rfl, rfl, rfl, rfl, rfl, rfl, rfl, rfl, rfl, rfl, rfl, rfl, rfl, rfl, rfl, rfl, rfl, rfl, rfl, rfl, rfl, rfl, rfl, rfl, rfl, rfl, rfl, rfl, rfl, rfl, rfl, rfl, rfl, rfl, rfl, rfl, rfl, rfl, rfl, rfl, rfl, rfl, rfl, rfl, rfl, rfl, rfl, rfl, rfl, rfl, rfl, rfl, rfl, rfl, rfl, rfl, trivial⟩ ?_;refine GE_plain (.st 0 (.st 1 (.ld 2 [] .nil))) rfl ?_;refine GT_st rfl rfl rfl rfl (V_move rfl rfl) ?_;refine GT_st rfl rfl rfl rfl (V_add rfl rfl rfl (wrap_i64 (by omega))) ?_;refine GT_ldv rfl rfl rfl rfl rfl (V_assign rfl rfl) (GR_nil) ?_;refine GT_nil ?_
                exact GE_to (ih (i + 1) ⟨by omega, fun j hj => by rcases Nat.lt_or_ge j i with r | r; exact hps j r; rw [show j = i by omega]; unfold posOk; omega⟩ (by omega)) ⟨rfl, rfl, rfl, rfl, trivial⟩ HS.all
        · refine GT_skip rfl rfl rfl rfl rfl (by decide) rfl rfl ?_;refine GT_skip rfl rfl rfl rfl rfl (by decide) rfl rfl ?_;refine GT_skip rfl rfl rfl rfl rfl (by decide) rfl rfl ?_;refine GT_skip rfl rfl rfl rfl rfl (by decide) rfl rfl ?_;refine GT_skip rfl rfl rfl rfl rfl (by decide) rfl rfl ?_;refine GT_skip rfl rfl rfl rfl rfl (by decide) rfl rfl ?_;refine GT_skip rfl rfl rfl rfl rfl (by decide) rfl rfl ?_;refine GT_skip rfl rfl rfl rfl rfl (by decide) rfl rfl ?_;refine GT_skip rfl rfl rfl rfl rfl (by decide) rfl rfl ?_;refine GT_skip_ld rfl rfl rfl rfl rfl (by decide) rfl rfl rfl (GR_skip rfl rfl rfl rfl rfl (by decide) rfl rfl (GR_skip rfl rfl rfl rfl rfl (by decide) rfl rfl (GR_skip rfl rfl rfl rfl rfl (by decide) rfl rfl (GR_skip rfl rfl rfl rfl rfl (by decide) rfl rfl (GR_skip rfl rfl rfl rfl rfl (by decide) rfl rfl (GR_nil)))))) ?_;refine GT_skip rfl rfl rfl rfl rfl (by decide) rfl rfl ?_;refine GT_skip rfl rfl rfl rfl rfl (by decide) rfl rfl ?_;refine GT_skip rfl rfl rfl rfl rfl (by decide) rfl rfl ?_;refine GT_skip rfl rfl rfl rfl rfl (by decide) rfl rfl ?_;refine GT_skip rfl rfl rfl rfl rfl (by decide) rfl rfl ?_;refine GT_skip rfl rfl rfl rfl rfl (by decide) rfl rfl ?_;refine GT_skip rfl rfl rfl rfl rfl (by decide) rfl rfl ?_;refine GT_skip rfl rfl rfl rfl rfl (by decide) rfl rfl ?_;refine GT_skip rfl rfl rfl rfl rfl (by decide) rfl rfl ?_;refine GT_skip rfl rfl rfl rfl rfl (by decide) rfl rfl ?_;refine GT_skip rfl rfl rfl rfl rfl (by decide) rfl rfl ?_;refine GT_skip rfl rfl rfl rfl rfl (by decide) rfl rfl ?_;refine GT_skip rfl rfl rfl rfl rfl (by decide) rfl rfl ?_
          refine GT_skip_ld rfl rfl rfl rfl rfl (by decide) rfl rfl rfl (GR_skip rfl rfl rfl rfl rfl (by decide) rfl rfl (GR_skip rfl rfl rfl rfl rfl (by decide) rfl rfl (GR_skip rfl rfl rfl rfl rfl (by decide) rfl rfl (GR_skip rfl rfl rfl rfl rfl (by decide) rfl rfl (GR_skip rfl rfl rfl rfl rfl (by decide) rfl rfl (GR_nil)))))) ?_;refine GT_skip rfl rfl rfl rfl rfl (by decide) rfl rfl ?_;refine GT_skip rfl rfl rfl rfl rfl (by decide) rfl rfl ?_;refine GT_skip rfl rfl rfl rfl rfl (by decide) rfl rfl ?_;refine GT_st_g rfl rfl rfl rfl rfl rfl rfl (V_pick_f rfl rfl rfl) ?_;refine GT_st rfl rfl rfl rfl (V_pick_f rfl rfl rfl) ?_;refine GT_st rfl rfl rfl rfl (V_move rfl rfl) ?_;refine GT_st_g rfl rfl rfl rfl rfl rfl rfl (V_move rfl rfl) ?_;refine GT_st_g rfl rfl rfl rfl rfl rfl rfl (V_gtr rfl rfl rfl) ?_;refine GT_st_g rfl rfl rfl rfl rfl rfl rfl (V_move rfl rfl) ?_;refine GT_split (d := 62) rfl (fun q7 => ?_) (fun q7 => ?_)
          · refine GT_st_g rfl rfl rfl rfl rfl rfl rfl (V_move rfl rfl) ?_;refine GT_st_g rfl rfl rfl rfl rfl rfl rfl (V_move rfl rfl) ?_;refine GT_st_g rfl rfl rfl rfl rfl rfl rfl (V_index rfl rfl rfl Tryz.underlying38 sz_3 (k := i) rfl hil (hy.isSome (k := i) (by omega))) ?_;refine GT_st_g rfl rfl rfl rfl rfl rfl rfl (V_load rfl rfl ag_3 (CellAt.own0 (k := i) hy eI_len (by omega) (by rw [bgns_get hil]; rfl))) ?_;refine GT_st_g rfl rfl rfl rfl rfl rfl rfl (V_move rfl rfl) ?_;refine GT_st_g rfl rfl rfl rfl rfl rfl rfl (V_move rfl rfl) ?_;refine GT_st_g rfl rfl rfl rfl rfl rfl rfl (V_sub rfl rfl rfl (wrap_i64 (by omega))) ?_;refine GT_st_g rfl rfl rfl rfl rfl rfl rfl (V_index rfl rfl rfl Tryz.underlying38 sz_3 (k := i - 2) (by omega) (by omega) (hy.isSome (k := i) (by omega))) ?_;refine GT_st_g rfl rfl rfl rfl rfl rfl rfl (V_load rfl rfl ag_3 (CellAt.own0 (k := i - 2) hy eI_len (by omega) (by rw [bgns_get (by omega)]; rfl))) ?_;refine GT_st_g rfl rfl rfl rfl rfl rfl rfl (V_move rfl rfl) ?_;refine GT_st_g rfl rfl rfl rfl rfl rfl rfl (V_move rfl rfl) ?_;refine GT_st_g rfl rfl rfl rfl rfl rfl rfl (V_sub rfl rfl rfl (wrap_i64 (by omega))) ?_;refine GT_st_g rfl rfl rfl rfl rfl rfl rfl (V_index rfl rfl rfl Tryz.underlying108 sz_124 (k := i - 2) (by omega) (by omega) (hp.isSome (k := i - 2) (by omega))) ?_;refine GT_st_g rfl rfl rfl rfl rfl rfl rfl (V_loadN (vs := [_, _, _, _, _, _, _]) rfl rfl ag_124 sz_124 rfl (show CellsAt _ _ _ (ePrt (pt p (i - 2))) from hp.ats noM (by omega))) ?_
            refine GT_call0_g rfl rfl rfl rfl rfl rfl rfl rfl rfl rfl rfl rn_149 (fun w hw => C_rLong (x := pt p (i - 2)) (by omega)) (GR_cons_g rfl rfl rfl rfl rfl rfl rfl (V_move rfl rfl) (GR_cons_g rfl rfl rfl rfl rfl rfl rfl (V_move rfl rfl) (GR_cons_g rfl rfl rfl rfl rfl rfl rfl (V_index rfl rfl rfl Tryz.underlying38 sz_3 (k := i) rfl hil (hy.isSome (k := i) (by omega))) (GR_cons_g rfl rfl rfl rfl rfl rfl rfl (V_load rfl rfl ag_3 (CellAt.own0 (k := i) hy eI_len (by omega) (by rw [bgns_get hil]; rfl))) (GR_cons_g rfl rfl rfl rfl rfl rfl rfl (V_move rfl rfl) (GR_cons_g rfl rfl rfl rfl rfl rfl rfl (V_move rfl rfl) (GR_cons_g rfl rfl rfl rfl rfl rfl rfl (V_sub rfl rfl rfl (wrap_i64 (by omega))) (GR_cons_g rfl rfl rfl rfl rfl rfl rfl (V_index rfl rfl rfl Tryz.underlying38 sz_3 (k := i - 2) (by omega) (by omega) (hy.isSome (k := i) (by omega))) (GR_cons_g rfl rfl rfl rfl rfl rfl rfl (V_load rfl rfl ag_3 (CellAt.own0 (k := i - 2) hy eI_len (by omega) (by rw [bgns_get (by omega)]; rfl))) (GR_nil)))))))))) ?_;refine GT_st_g rfl rfl rfl rfl rfl rfl rfl (V_add rfl rfl rfl (wrap_i64 (by omega))) ?_;refine GT_st_g rfl rfl rfl rfl rfl rfl rfl (V_lss rfl rfl rfl) ?_;refine GT_st_g rfl rfl rfl rfl rfl rfl rfl (V_pick_t rfl rfl rfl) ?_;refine GT_st rfl rfl rfl rfl (V_pick_f rfl rfl rfl) ?_;refine GT_nil ?_;refine GE_cond rfl (fun q8 => ?_) (fun q8 => ?_)
            · refine GE_seq ?_;refine GE_slots (L' := []) trivial ?_;refine GE_plain (.st 0 .nil) rfl ?_;refine GT_st rfl rfl rfl rfl (V_assign rfl rfl) ?_;refine GT_nil ?_;refine GE_ret Tryz.func93 rfl (fun w hw => ⟨?_, hw.nil⟩)
              rw [decide_eq_false]; intro hP; have := hP.1 i hil; unfold posOk at this; omega
            · refine GE_skip ?_;refine GE_inBlock ?_;refine GE_slots (L' := [(0, _), (3, _), (4, _), (5, _), (20, _), (21, _), (22, _), (23, _), (24, _), (27, _), (28, _), (29, _), (30, _), (31, _), (32, _), (33, _), (34, _), (35, _), (36, _), (37, _), (38, _), (39, _), (40, _), (41, _), (42, _), (43, _), (44, _), (45, _), (46, _), (47, _), (48, _), (49, _), (50, _), (51, _), (52, _), (53, _), (54, _), (55, _), (56, _), (57, _), (60, _), (61, _), (62, _), (63, _), (64, _), (65, _), (66, _), (67, _), (68, _), (69, _), (70, _), (71, _), (72, _), (73, _), (74, _), (75, _), (76, _), (77, _), (78, _), (79, _), (80, _)]) ⟨rfl, rfl, rfl, rfl, rfl, rfl, rfl, rfl, rfl, rfl, rfl, rfl, rfl, rfl, rfl, rfl, rfl, rfl, rfl, rfl, rfl, rfl, rfl, rfl, rfl, rfl, rfl, rfl, rfl, rfl, rfl, rfl, rfl, rfl, rfl, rfl, rfl, rfl, rfl, rfl, rfl, rfl, rfl, rfl, rfl, rfl, rfl, rfl, rfl, rfl, rfl, rfl, rfl, rfl, rfl, rfl, rfl, rfl, rfl, rfl, rfl, trivial⟩ ?_;refine GE_plain (.st 0 (.st 1 (.ld 2 [] .nil))) rfl ?_;refine GT_st rfl rfl rfl rfl (V_move rfl rfl) ?_;refine GT_st rfl rfl rfl rfl (V_add rfl rfl rfl (wrap_i64 (by omega))) ?_;refine GT_ldv rfl rfl rfl rfl rfl (V_assign rfl rfl) (GR_nil) ?_;refine GT_nil ?_
              exact GE_to (ih (i + 1) ⟨by omega, fun j hj => by rcases Nat.lt_or_ge j i with r | r; exact hps j r; rw [show j = i by omega]; unfold posOk; omega⟩ (by omega)) ⟨rfl, rfl, rfl, rfl, trivial⟩ HS.all
          · refine GT_skip rfl rfl rfl rfl rfl (by decide) rfl rfl ?_;refine GT_skip rfl rfl rfl rfl rfl (by decide) rfl rfl ?_;refine GT_skip rfl rfl rfl rfl rfl (by decide) rfl rfl ?_;refine GT_skip rfl rfl rfl rfl rfl (by decide) rfl rfl ?_;refine GT_skip rfl rfl rfl rfl rfl (by decide) rfl rfl ?_;refine GT_skip rfl rfl rfl rfl rfl (by decide) rfl rfl ?_;refine GT_skip rfl rfl rfl rfl rfl (by decide) rfl rfl ?_;refine GT_skip rfl rfl rfl rfl rfl (by decide) rfl rfl ?_;refine GT_skip rfl rfl rfl rfl rfl (by decide) rfl rfl ?_;refine GT_skip rfl rfl rfl rfl rfl (by decide) rfl rfl ?_;refine GT_skip rfl rfl rfl rfl rfl (by decide) rfl rfl ?_;refine GT_skip rfl rfl rfl rfl rfl (by decide) rfl rfl ?_;refine GT_skip rfl rfl rfl rfl rfl (by decide) rfl rfl ?_;refine GT_skip rfl rfl rfl rfl rfl (by decide) rfl rfl ?_;refine GT_skip_ld rfl rfl rfl rfl rfl (by decide) rfl rfl rfl (GR_skip rfl rfl rfl rfl rfl (by decide) rfl rfl (GR_skip rfl rfl rfl rfl rfl (by decide) rfl rfl (GR_skip rfl rfl rfl rfl rfl (by decide) rfl rfl (GR_skip rfl rfl rfl rfl rfl (by decide) rfl rfl (GR_skip rfl rfl rfl rfl rfl (by decide) rfl rfl (GR_skip rfl rfl rfl rfl rfl (by decide) rfl rfl (GR_skip rfl rfl rfl rfl rfl (by decide) rfl rfl (GR_skip rfl rfl rfl rfl rfl (by decide) rfl rfl (GR_skip rfl rfl rfl rfl rfl (by decide) rfl rfl (GR_nil)))))))))) ?_;refine GT_skip rfl rfl rfl rfl rfl (by decide) rfl rfl ?_;refine GT_skip rfl rfl rfl rfl rfl (by decide) rfl rfl ?_;refine GT_st_g rfl rfl rfl rfl rfl rfl rfl (V_pick_f rfl rfl rfl) ?_;refine GT_st rfl rfl rfl rfl (V_pick_f rfl rfl rfl) ?_;refine GT_nil ?_;refine GE_cond_f rfl ?_;refine GE_skip ?_;refine GE_inBlock ?_
            refine GE_slots (L' := [(0, _), (3, _), (4, _), (5, _), (20, _), (21, _), (22, _), (23, _), (24, _), (27, _), (28, _), (29, _), (30, _), (31, _), (32, _), (33, _), (34, _), (35, _), (36, _), (37, _), (38, _), (39, _), (40, _), (41, _), (42, _), (43, _), (44, _), (45, _), (46, _), (47, _), (48, _), (49, _), (50, _), (51, _), (52, _), (53, _), (54, _), (55, _), (56, _), (57, _), (60, _), (61, _), (62, _), (63, _), (64, _), (65, _), (66, _), (67, _), (68, _), (69, _), (70, _), (71, _), (72, _), (73, _), (74, _), (75, _), (76, _), (77, _), (78, _), (79, _), (80, _)]) ⟨rfl, rfl, rfl, rfl, rfl, rfl, rfl, rfl, rfl, rfl, rfl, rfl, rfl, rfl, rfl, rfl, rfl, rfl, rfl, rfl, rfl, rfl, rfl, rfl, rfl, rfl, rfl, rfl, rfl, rfl, rfl, rfl, rfl, rfl, rfl, rfl, rfl, rfl, rfl, rfl, rfl, rfl, rfl, rfl, rfl, rfl, rfl, rfl, rfl, rfl, rfl, rfl, rfl, rfl, rfl, rfl, rfl, rfl, rfl, rfl, rfl, trivial⟩ ?_;refine GE_plain (.st 0 (.st 1 (.ld 2 [] .nil))) rfl ?_;refine GT_st rfl rfl rfl rfl (V_move rfl rfl) ?_;refine GT_st rfl rfl rfl rfl (V_add rfl rfl rfl (wrap_i64 (by omega))) ?_;refine GT_ldv rfl rfl rfl rfl rfl (V_assign rfl rfl) (GR_nil) ?_;refine GT_nil ?_
            exact GE_to (ih (i + 1) ⟨by omega, fun j hj => by rcases Nat.lt_or_ge j i with r | r; exact hps j r; rw [show j = i by omega]; unfold posOk; omega⟩ (by omega)) ⟨rfl, rfl, rfl, rfl, trivial⟩ HS.all
    · refine GE_exit rfl ?_;refine GE_seq ?_;refine GE_slots (L' := [(4, _)]) ⟨rfl, trivial⟩ ?_;refine GE_plain (.st 0 (.st 1 (.st 2 .nil))) rfl ?_;refine GT_st rfl rfl rfl rfl (V_move rfl rfl) ?_;refine GT_st rfl rfl rfl rfl (V_leq rfl rfl rfl) ?_;refine GT_st rfl rfl rfl rfl (V_assign rfl rfl) ?_;refine GT_nil ?_;refine GE_ret Tryz.func93 rfl (fun w hw => ⟨?_, hw.nil⟩)
      first | (rw [decide_eq_false]; intro hP; have := hP.1 i hil; unfold posOk at this; omega) | (refine congrArg Value.bool (decide_eq_decide.2 ⟨fun h => ⟨fun j hj => hps j (by omega), h⟩, fun h => h.2⟩))
  · exact ⟨Nat.zero_le _, fun i hi => absurd hi (Nat.not_lt_zero _)⟩
theorem C_rCheckProgramme (h : Tks w A l) (hp : RdL w 7 ePrt A2 p) : Con0 Tryz.prog 39 [.slice A l.length c, .slice A2 p.length c2] w (I (gErr l p)) := by
  refine Ret_of (vs := [_, _]) hm none' Tryz.func39 rfl Tryz.ntmps39 rfl ?_
  dsimp only [slotsOf]
  refine GE_seq ?_;refine GE_plain (.st 0 .nil) rfl ?_;refine GT_st rfl rfl rfl rfl (V_assign rfl rfl) ?_;refine GT_nil ?_;refine GE_seq ?_;refine GE_seq ?_;refine GE_plain (.st 0 (.ld 1 [] (.st 2 .nil))) rfl ?_;refine GT_st rfl rfl rfl rfl (V_move rfl rfl) ?_;refine GT_call0 rfl rfl rfl rfl rfl rfl rfl rfl rn_91 (fun w hw => C_rCheckTakes (h.sh hw)) (GR_nil) ?_;refine GT_st rfl rfl rfl rfl (V_neq rfl rfl rfl) ?_;refine GT_nil ?_;refine GE_condNot rfl (fun q1 => ?_) (fun q1 => ?_)
  · refine GE_seq ?_;refine GE_slots (L' := [(0, _)]) ⟨rfl, trivial⟩ ?_;refine GE_plain (.st 0 (.ld 1 [] (.st 2 .nil))) rfl ?_;refine GT_st rfl rfl rfl rfl (V_move rfl rfl) ?_;refine GT_call0 rfl rfl rfl rfl rfl rfl rfl rfl rn_91 (fun w hw => C_rCheckTakes (h.sh hw)) (GR_nil) ?_;refine GT_st rfl rfl rfl rfl (V_assign rfl rfl) ?_;refine GT_nil ?_;refine GE_ret Tryz.func39 rfl (fun w hw => ⟨?_, hw.nil⟩)
    rw [gErr, if_neg q1]
  · have hl := lErr_zero.1 q1
    refine GE_skip ?_;refine GE_seq ?_;refine GE_seq ?_;refine GE_slots (L' := [(0, _), (1, _)]) ⟨rfl, rfl, trivial⟩ ?_;refine GE_plain (.st 0 (.st 1 (.st 2 .nil))) rfl ?_;refine GT_st rfl rfl rfl rfl (V_move rfl rfl) ?_;refine GT_st rfl rfl rfl rfl (V_len rfl Tryz.underlying108 rfl) ?_;refine GT_st rfl rfl rfl rfl (V_gtr rfl rfl rfl) ?_;refine GT_nil ?_;refine GE_cond rfl (fun q2 => ?_) (fun q2 => ?_)
    · refine GE_seq ?_;refine GE_slots (L' := []) trivial ?_;refine GE_plain (.st 0 .nil) rfl ?_;refine GT_st rfl rfl rfl rfl (V_assign rfl rfl) ?_;refine GT_nil ?_;refine GE_ret Tryz.func39 rfl (fun w hw => ⟨?_, hw.nil⟩)
      rw [gErr, if_pos q1, if_pos (by omega)]
    · refine GE_skip ?_;refine GE_seq ?_;refine GE_seq ?_;refine GE_plain (.st 0 .nil) rfl ?_;refine GT_st rfl rfl rfl rfl (V_assign rfl rfl) ?_;refine GT_nil ?_;refine GE_block ?_;refine GE_to (GE_loop (ι := Nat) (fun k => p.length - k) (fun k => [(0, .slice A l.length c), (1, .slice A2 p.length c2), (5, I k)]) (fun k => []) (fun k => k ≤ p.length ∧ ∀ i, i < k → goodP l (pt p i) = true) ?_ 0 ?_) ⟨rfl, rfl, rfl, trivial⟩ HS.nil
      · rintro k ⟨hk, hgd⟩ ih
        refine GE_seq ?_;refine GE_seq ?_;refine GE_plain (.st 0 (.st 1 (.st 2 (.st 3 .nil)))) rfl ?_;refine GT_st rfl rfl rfl rfl (V_move rfl rfl) ?_;refine GT_st rfl rfl rfl rfl (V_move rfl rfl) ?_;refine GT_st rfl rfl rfl rfl (V_len rfl Tryz.underlying108 rfl) ?_;refine GT_st rfl rfl rfl rfl (V_lss rfl rfl rfl) ?_;refine GT_nil ?_;refine GE_cond rfl (fun q3 => ?_) (fun q3 => ?_)
        · have hkl : k < p.length := (by omega)
          refine GE_skip ?_;refine GE_seq ?_;refine GE_block ?_;refine GE_seq ?_;refine GE_slots (L' := [(0, _), (1, _), (5, _)]) ⟨rfl, rfl, rfl, trivial⟩ ?_;refine GE_plain (.st 0 (.st 1 (.st 2 (.st 3 (.st 4 (.ld 5 [] (.st 6 .nil))))))) rfl ?_;refine GT_st rfl rfl rfl rfl (V_move rfl rfl) ?_;refine GT_st rfl rfl rfl rfl (V_move rfl rfl) ?_;refine GT_st rfl rfl rfl rfl (V_move rfl rfl) ?_;refine GT_st rfl rfl rfl rfl (V_index rfl rfl rfl Tryz.underlying108 sz_124 (k := k) rfl hkl (hp.isSome hkl)) ?_;refine GT_st rfl rfl rfl rfl (V_loadN (vs := [_, _, _, _, _, _, _]) rfl rfl ag_124 sz_124 rfl (show CellsAt _ _ _ (ePrt (pt p k)) from hp.ats noM hkl)) ?_;refine GT_call0 rfl rfl rfl rfl rfl rfl rfl rfl rn_92 (fun w hw => C_rpart (x := pt p k) (h.sh hw)) (GR_nil) ?_;refine GT_st rfl rfl rfl rfl (V_notB rfl rfl) ?_;refine GT_nil ?_;refine GE_condNotB rfl (fun q4 => ?_) (fun q4 => ?_)
          · refine GE_seq ?_;refine GE_slots (L' := []) trivial ?_;refine GE_plain (.st 0 .nil) rfl ?_;refine GT_st rfl rfl rfl rfl (V_assign rfl rfl) ?_;refine GT_nil ?_;refine GE_ret Tryz.func39 rfl (fun w hw => ⟨?_, hw.nil⟩)
            rw [gErr, if_pos q1, if_neg (by omega), if_neg (by rw [all_split hkl q4]; decide)]
          · refine GE_skip ?_;refine GE_inBlock ?_;refine GE_slots (L' := [(0, _), (1, _), (5, _)]) ⟨rfl, rfl, rfl, trivial⟩ ?_;refine GE_plain (.st 0 (.st 1 (.ld 2 [] .nil))) rfl ?_;refine GT_st rfl rfl rfl rfl (V_move rfl rfl) ?_;refine GT_st rfl rfl rfl rfl (V_add rfl rfl rfl (wrap_i64 (by omega))) ?_;refine GT_ldv rfl rfl rfl rfl rfl (V_assign rfl rfl) (GR_nil) ?_;refine GT_nil ?_
            exact GE_to (ih (k + 1) ⟨by omega, fun i hi => by rcases Nat.lt_or_ge i k with r | r; exact hgd i r; rw [show i = k by omega]; exact q4⟩ (by omega)) ⟨rfl, rfl, rfl, trivial⟩ HS.nil
        · have hG : Gd l p := ⟨hl, by omega, fun i hi => goodP_iff.1 (hgd i (by omega))⟩; have hall : p.all (goodP l) = true := all_getD.2 fun i hi => hgd i (by omega)
          refine GE_exit rfl ?_;refine GE_seq ?_;refine GE_seq ?_;refine GE_slots (L' := [(1, _)]) ⟨rfl, trivial⟩ ?_;refine GE_plain (.st 0 (.ld 1 [] (.st 2 .nil))) rfl ?_;refine GT_st rfl rfl rfl rfl (V_move rfl rfl) ?_;refine GT_call0 rfl rfl rfl rfl rfl rfl rfl rfl rn_93 (fun w hw => C_rpossible hG (hp.sh hw)) (GR_nil) ?_;refine GT_st rfl rfl rfl rfl (V_not rfl rfl) ?_;refine GT_nil ?_;refine GE_condNot rfl (fun q5 => ?_) (fun q5 => ?_)
          · refine GE_seq ?_;refine GE_slots (L' := []) trivial ?_;refine GE_plain (.st 0 .nil) rfl ?_;refine GT_st rfl rfl rfl rfl (V_assign rfl rfl) ?_;refine GT_nil ?_;refine GE_ret Tryz.func39 rfl (fun w hw => ⟨?_, hw.nil⟩)
            first | rw [gErr, if_pos q1, if_neg (by omega), if_pos hall, if_neg q5] | rw [gErr, if_pos q1, if_neg (by omega), if_pos hall, if_neg (of_decide_eq_false q5)]
          · refine GE_skip ?_;refine GE_seq ?_;refine GE_slots (L' := []) trivial ?_;refine GE_plain (.st 0 .nil) rfl ?_;refine GT_st rfl rfl rfl rfl (V_assign rfl rfl) ?_;refine GT_nil ?_;refine GE_ret Tryz.func39 rfl (fun w hw => ⟨?_, hw.nil⟩)
            first | rw [gErr, if_pos q1, if_neg (by omega), if_pos hall, if_pos q5] | rw [gErr, if_pos q1, if_neg (by omega), if_pos hall, if_pos (of_decide_eq_true q5)]
      · exact ⟨Nat.zero_le _, fun i hi => absurd hi (Nat.not_lt_zero _)⟩
end
end Go.Proofs.YtpbflnfcgcldkaaGreatDoor.Take
/- The document's Row and Text, walked. -/
namespace Go.Proofs.YtpbflnfcgcldkaaGreatDoor.Take
open Go.Sx Go.Proofs Go.RowKit
section
variable {w : World} {A A2 : Option Addr} {c c2 : Nat} {l : List Tk} {p : List Prt}
theorem lookT {L : Slots} {t : Nat} {x y : ByteArray} (h : Go.Sx.look L t = some (.string x)) (e : x = y) : Go.Sx.look L t = some (.string y) := e ▸ h
def rowL (d : List UInt8) (n : List Int) : List UInt8 := d ++ n.flatMap nB
theorem rowL_nil (d : List UInt8) : rowL d [] = d := by unfold rowL; rw [List.flatMap_nil, List.append_nil]
theorem rowL_succ {d : List UInt8} {n : List Int} {k : Nat} (hk : k < n.length) : rowL d (n.take (k + 1)) = rowL d (n.take k) ++ nB (n.getD k default) := by
  unfold rowL
  rw [List.take_add_one, List.getElem?_eq_getElem hk, List.flatMap_append, ← List.append_assoc]
  simp [List.getD, hk]
theorem rowL_len {d : List UInt8} {n : List Int} (hb : ∀ x ∈ n, -1000000000000000 ≤ x ∧ x ≤ 1000000000000000) : (rowL d n).length ≤ d.length + 22 * n.length := by
  unfold rowL
  rw [List.length_append]
  have : (n.flatMap nB).length ≤ 22 * n.length := by
    induction n with
    | nil => exact Nat.zero_le _
    | cons x n ih =>
      have h1 := ih fun y hy => hb y (List.mem_cons_of_mem _ hy)
      have h2 := itoa_le x (hb x List.mem_cons_self)
      rw [← byz_len, byz_stz] at h2
      rw [List.flatMap_cons, List.length_append, List.length_cons, nB, List.length_cons]; omega
  omega
def nums (x : Prt) : List Int := [x.fr, x.to, x.gap, x.inn, x.out, x.lev]
theorem rowL_nums (nm : List UInt8) (x : Prt) : rowL (part5 ++ 32 :: nm) (nums x) = rowN nm x := by
  simp [rowL, nums, rowN, numB]
theorem tx_succ {l : List Tk} {p : List Prt} {k : Nat} (hk : k < p.length) : tx l (p.take (k + 1)) = tx l (p.take k) ++ lnB l (pt p k) := by
  rw [take_succ hk, tx_app, tx_one]
theorem tx_take_le {l : List Tk} {p : List Prt} (h : gErr l p = 0) (k : Nat) : (tx l (p.take k)).length ≤ 3200 := by
  have h1 := tx_len h
  have h2 : tx l p = tx l (p.take k) ++ tx l (p.drop k) := by rw [← tx_app, List.take_append_drop]
  rw [h2, List.length_append] at h1; omega
theorem nm_size {s : ByteArray} (h : isNm s = true) : s.size ≤ 20 := by
  unfold isNm at h
  rw [Bool.and_eq_true, Bool.and_eq_true, decide_eq_true_iff, decide_eq_true_iff] at h
  exact h.1.2
theorem nums_bd {x : Prt} (h : (-10000000000 < x.fr ∧ x.fr < 10000000000) ∧ (-10000000000 < x.to ∧ x.to < 10000000000) ∧ (-10000000000 < x.gap ∧ x.gap < 10000000000) ∧ (-10000000000 < x.inn ∧ x.inn < 10000000000) ∧ (-10000000000 < x.out ∧ x.out < 10000000000) ∧ (-10000000000 < x.lev ∧ x.lev < 10000000000)) : ∀ z ∈ nums x, -1000000000000000 ≤ z ∧ z ≤ 1000000000000000 := by
  intro z hz
  simp only [nums, List.mem_cons, List.not_mem_nil, or_false] at hz
  rcases hz with rfl | rfl | rfl | rfl | rfl | rfl <;> omega
end
end Go.Proofs.YtpbflnfcgcldkaaGreatDoor.Take
/- The document's Cut and Number, walked. -/
namespace Go.Proofs.YtpbflnfcgcldkaaGreatDoor.Take
open Go.Sx Go.Proofs Go.RowKit
def eB (x : List UInt8) : List Value := [.string (stz x)]
theorem eB_len (x : List UInt8) : (eB x).length = 1 := rfl
theorem eB_one : ∀ x, ∀ u ∈ eB x, u.oneCell' = true := by intro x u hu; simp only [eB, List.mem_singleton] at hu; subst hu; rfl
theorem u8_eq {a b : UInt8} (h : (a.toNat : Int) = b.toNat) : a = b := UInt8.toNat_inj.1 (by omega)
section
variable {w : World}
def cutOk (c : UInt8) (s : List UInt8) (i fr : Nat) (out : List (List UInt8)) : Prop :=
  (i ≤ s.length ∧ fr ≤ i ∧ c ∉ (s.drop fr).take (i - fr) ∧ pcs c s = out ++ pcs c (s.drop fr)) ∨ (i = s.length + 1 ∧ pcs c s = out)
theorem cutOk_0 (c : UInt8) (s : List UInt8) : cutOk c s 0 0 [] := .inl ⟨Nat.zero_le _, Nat.le_refl _, by simp, rfl⟩
theorem drop_split {s : List UInt8} {i fr : Nat} (hi : i < s.length) (hf : fr ≤ i) : s.drop fr = (s.drop fr).take (i - fr) ++ s.getD i 0 :: s.drop (i + 1) := by
  conv => lhs; rw [← List.take_append_drop (i - fr) (s.drop fr), List.drop_drop, show fr + (i - fr) = i by omega, List.drop_eq_getElem_cons hi]
  simp [List.getD, hi]
theorem cutOk_sep {c : UInt8} {s : List UInt8} {i fr : Nat} {out : List (List UInt8)} (h : cutOk c s i fr out) (hi : i < s.length) (e : s.getD i 0 = c) : cutOk c s (i + 1) (i + 1) (out ++ [(s.drop fr).take (i - fr)]) := by
  rcases h with ⟨h1, h2, h3, h4⟩ | ⟨h1, _⟩
  · refine .inl ⟨hi, Nat.le_refl _, by simp, ?_⟩
    have e5 : pcs c (s.drop fr) = (s.drop fr).take (i - fr) :: pcs c (s.drop (i + 1)) := (congrArg (pcs c) (drop_split hi h2)).trans (by rw [e, pcs_app h3])
    rw [h4, e5, List.append_assoc]; rfl
  · omega
theorem cutOk_no {c : UInt8} {s : List UInt8} {i fr : Nat} {out : List (List UInt8)} (h : cutOk c s i fr out) (hi : i < s.length) (e : ¬ s.getD i 0 = c) : cutOk c s (i + 1) fr out := by
  rcases h with ⟨h1, h2, h3, h4⟩ | ⟨h1, _⟩
  · refine .inl ⟨hi, by omega, ?_, h4⟩
    have hl : i - fr < (s.drop fr).length := by rw [List.length_drop]; omega
    rw [show i + 1 - fr = (i - fr) + 1 by omega, List.take_add_one, List.getElem?_eq_getElem hl]
    intro hm
    rcases List.mem_append.1 hm with hm | hm
    · exact h3 hm
    · rw [List.getElem_drop] at hm
      simp only [Option.toList, List.mem_singleton] at hm
      have e3 : s[fr + (i - fr)]'(by omega) = s[i]'hi := by congr 1; omega
      exact e (by rw [hm, e3]; simp [List.getD, hi])
  · omega
theorem cutOk_end {c : UInt8} {s : List UInt8} {i fr : Nat} {out : List (List UInt8)} (h : cutOk c s i fr out) (hi : i = s.length) : cutOk c s (i + 1) (i + 1) (out ++ [(s.drop fr).take (i - fr)]) := by
  rcases h with ⟨h1, h2, h3, h4⟩ | ⟨h1, _⟩
  · refine .inr ⟨by omega, ?_⟩
    have e : (s.drop fr).take (i - fr) = s.drop fr := List.take_of_length_le (by rw [List.length_drop]; omega)
    rw [h4, e, pcs_none (e ▸ h3)]
  · omega
theorem cutOk_fr {c : UInt8} {s : List UInt8} {i fr : Nat} {out : List (List UInt8)} (h : cutOk c s i fr out) (hi : i ≤ s.length) : fr ≤ i := by
  rcases h with ⟨_, h2, _⟩ | ⟨h1, _⟩
  · exact h2
  · omega
theorem cutOk_out {c : UInt8} {s : List UInt8} {i fr m : Nat} {out : List (List UInt8)} (h : cutOk c s i fr out) (hi : i = s.length + 1 ∨ m ≤ out.length) (hm : out.length ≤ m) : out = (pcs c s).take m := by
  rcases h with ⟨h1, _, _, h4⟩ | ⟨_, h4⟩
  · rcases hi with hi | hi
    · omega
    · rw [h4, show m = out.length by omega, List.take_left]
  · rw [h4, List.take_of_length_le hm]
set_option maxRecDepth 20000 in
theorem C_Cut {s : List UInt8} {c : UInt8} {m : Nat} (hs : s.length ≤ 1000000) (hmm : m ≤ 100) : Con Tryz.prog 42 [.string (stz s), .int .u8 c.toNat, I m] w (fun y : Option Addr × Nat × Items => Own 1 9 eB ((pcs c s).take m) (.slice y.1 ((pcs c s).take m).length y.2.1) y.2.2)
    (fun y => .slice y.1 ((pcs c s).take m).length y.2.1) (fun y => y.2.2) := by
  have hsz := stz_size s
  have hcl := c.toNat_lt
  refine Ret_of (vs := [_, _, _]) hm none' Tryz.func42 rfl Tryz.ntmps42 rfl ?_
  dsimp only [slotsOf]
  refine GE_seq ?_;refine GE_plain (.st 0 .nil) rfl ?_;refine GT_st rfl rfl rfl rfl (V_assign rfl rfl) ?_;refine GT_nil ?_;refine GE_seq ?_;refine GE_plain (.st 0 .nil) rfl ?_;refine GT_st rfl rfl rfl rfl (V_assign rfl rfl) ?_;refine GT_nil ?_;refine GE_seq ?_;refine GE_plain (.st 0 .nil) rfl ?_;refine GT_st rfl rfl rfl rfl (V_assign rfl rfl) ?_;refine GT_nil ?_;refine GE_seq ?_;refine GE_seq ?_;refine GE_plain (.st 0 .nil) rfl ?_;refine GT_st rfl rfl rfl rfl (V_assign rfl rfl) ?_;refine GT_nil ?_;refine GE_block ?_;refine GE_to (GE_loop (ι := Nat × Nat × List (List UInt8) × (Option Addr × Nat × Items)) (fun z => s.length + 1 - z.1) (fun z => [(0, .string (stz s)), (1, .int .u8 c.toNat), (2, I m), (7, .slice z.2.2.2.1 z.2.2.1.length z.2.2.2.2.1), (8, I z.2.1), (9, I z.1)]) (fun z => z.2.2.2.2.2) (fun z => (z.1 ≤ s.length + 1 ∧ z.2.2.1.length ≤ m) ∧ cutOk c s z.1 z.2.1 z.2.2.1 ∧ Own 1 9 eB z.2.2.1 (.slice z.2.2.2.1 z.2.2.1.length z.2.2.2.2.1) z.2.2.2.2.2) ?_ (0, 0, [], (none, 0, [])) ?_) ⟨rfl, rfl, rfl, rfl, rfl, rfl, trivial⟩ HS.nil
  · rintro ⟨i, fr, out, y⟩ ⟨⟨hi, hom⟩, hk, hO⟩ ih; dsimp only at hi hom hk hO ih ⊢; have hfr := cutOk_fr hk
    refine GE_seq ?_;refine GE_seq ?_;refine GE_plain (.st 0 (.st 1 (.st 2 (.st 3 (.st 4 (.st 5 (.st 6 (.st 7 (.st 8 (.st 9 .nil)))))))))) rfl ?_;refine GT_st rfl rfl rfl rfl (V_move rfl rfl) ?_;refine GT_st rfl rfl rfl rfl (V_move rfl rfl) ?_;refine GT_st rfl rfl rfl rfl (V_len_str rfl Tryz.underlying9 rfl) ?_;refine GT_st rfl rfl rfl rfl (V_leq rfl rfl rfl) ?_;refine GT_st rfl rfl rfl rfl (V_move rfl rfl) ?_;refine GT_split (d := 14) rfl (fun q1 => ?_) (fun q1 => ?_)
    · refine GT_st_g rfl rfl rfl rfl rfl rfl rfl (V_move rfl rfl) ?_;refine GT_st_g rfl rfl rfl rfl rfl rfl rfl (V_len rfl Tryz.underlying113 rfl) ?_;refine GT_st_g rfl rfl rfl rfl rfl rfl rfl (V_move rfl rfl) ?_;refine GT_st_g rfl rfl rfl rfl rfl rfl rfl (V_lss rfl rfl rfl) ?_;refine GT_st rfl rfl rfl rfl (V_pick_t rfl rfl rfl) ?_;refine GT_nil ?_;refine GE_cond rfl (fun q2 => ?_) (fun q2 => ?_)
      · have hfr2 := hfr (by omega)
        refine GE_skip ?_;refine GE_seq ?_;refine GE_block ?_;refine GE_seq ?_;refine GE_slots (L' := [(0, _), (1, _), (2, _), (7, _), (8, _), (9, _), (15, _), (16, _), (17, _), (18, _)]) ⟨rfl, rfl, rfl, rfl, rfl, rfl, rfl, rfl, rfl, rfl, trivial⟩ ?_;refine GE_plain (.st 0 (.st 1 (.st 2 (.st 3 (.st 4 (.st 5 (.st 6 (.st 7 (.st 8 (.st 9 (.st 10 .nil))))))))))) rfl ?_;refine GT_st rfl rfl rfl rfl (V_move rfl rfl) ?_;refine GT_st rfl rfl rfl rfl (V_move rfl rfl) ?_;refine GT_st rfl rfl rfl rfl (V_len_str rfl Tryz.underlying9 rfl) ?_;refine GT_st rfl rfl rfl rfl (V_eql rfl rfl rfl) ?_;refine GT_st rfl rfl rfl rfl (V_move rfl rfl) ?_;refine GT_split (d := 26) rfl (fun q3 => ?_) (fun q3 => ?_)
        · refine GT_skip rfl rfl rfl rfl rfl (by decide) rfl rfl ?_;refine GT_skip rfl rfl rfl rfl rfl (by decide) rfl rfl ?_;refine GT_skip rfl rfl rfl rfl rfl (by decide) rfl rfl ?_;refine GT_skip rfl rfl rfl rfl rfl (by decide) rfl rfl ?_;refine GT_skip rfl rfl rfl rfl rfl (by decide) rfl rfl ?_;refine GT_st rfl rfl rfl rfl (V_pick_t rfl rfl rfl) ?_;refine GT_nil ?_;refine GE_cond_t rfl ?_;refine GE_seq ?_;refine GE_slots (L' := [(0, _), (1, _), (2, _), (7, _), (8, _), (9, _), (15, _), (16, _), (17, _), (18, _), (27, _), (28, _), (29, _), (30, _), (31, _)]) ⟨rfl, rfl, rfl, rfl, rfl, rfl, rfl, rfl, rfl, rfl, rfl, rfl, rfl, rfl, rfl, trivial⟩ ?_;refine GE_plain (.st 0 (.st 1 (.st 2 (.st 3 (.st 4 (.ld 5 [] (.ld 6 [] (.ld 7 [] .nil)))))))) rfl ?_;refine GT_st rfl rfl rfl rfl (V_move rfl rfl) ?_;refine GT_st rfl rfl rfl rfl (V_move rfl rfl) ?_;refine GT_st rfl rfl rfl rfl (V_move rfl rfl) ?_;refine GT_st rfl rfl rfl rfl (V_move rfl rfl) ?_;refine GT_st rfl rfl rfl rfl (V_sliceStrL (lo := fr) (hi := i) rfl rfl rfl rfl Tryz.underlying9 rfl rfl ⟨by omega, by omega⟩) ?_;refine GT_buildSlice (z := [_]) rfl rfl rfl rfl rfl Tryz.underlying113 zc_9 sz_9 (by decide) rfl rfl (fun _ => GR_nil) (fun b38 => ?_)
          refine GT_append (enc := eB) (m := [(s.drop fr).take (i - fr)]) rfl rfl rfl rfl rfl rfl rfl hO (fun w m => RdL.own' m eB_len) Tryz.underlying113 zc_9 sz_9 ⟨rfl, by decide⟩ by_9 ⟨by simp only [List.length_singleton]; omega, by simp only [List.length_singleton]; omega⟩ eB_len eB_one (fun _ _ _ _ => GR_nil) (fun A3 c3 I3 hO3 => ?_)
          refine GT_ldv rfl rfl rfl rfl rfl (V_assign rfl rfl) (GR_nil) ?_;refine GT_nil ?_;refine GE_slots (L' := [(0, _), (1, _), (2, _), (7, _), (9, _), (15, _), (16, _), (17, _), (18, _), (27, _), (28, _), (29, _), (30, _), (31, _)]) ⟨rfl, rfl, rfl, rfl, rfl, rfl, rfl, rfl, rfl, rfl, rfl, rfl, rfl, rfl, trivial⟩ ?_;refine GE_plain (.st 0 (.st 1 (.st 2 .nil))) rfl ?_;refine GT_st rfl rfl rfl rfl (V_move rfl rfl) ?_;refine GT_st rfl rfl rfl rfl (V_add rfl rfl rfl (wrap_i64 (by omega))) ?_;refine GT_st rfl rfl rfl rfl (V_assign rfl rfl) ?_;refine GT_nil ?_;refine GE_inBlock ?_;refine GE_plain (.st 0 (.st 1 (.ld 2 [] .nil))) rfl ?_;refine GT_st rfl rfl rfl rfl (V_move rfl rfl) ?_;refine GT_st rfl rfl rfl rfl (V_add rfl rfl rfl (wrap_i64 (by omega))) ?_;refine GT_ldv rfl rfl rfl rfl rfl (V_assign rfl rfl) (GR_nil) ?_;refine GT_nil ?_
          first
            | exact GE_to (ih (i + 1, i + 1, out ++ [(s.drop fr).take (i - fr)], (A3, c3, I3)) ⟨⟨by dsimp only; omega, by dsimp only; rw [List.length_append, List.length_singleton]; omega⟩, by first | exact cutOk_end hk (by omega) | exact cutOk_sep hk (by omega) (u8_eq (by omega)), hO3⟩ (by dsimp only; omega)) ⟨rfl, rfl, rfl, rfl, lookI rfl (by dsimp only; omega), lookI rfl (by dsimp only; omega), trivial⟩ HS.last
            | exact GE_to (ih (i + 1, fr, out, y) ⟨⟨by dsimp only; omega, hom⟩, cutOk_no hk (by omega) (fun q => by rw [← q] at q4; exact q4 rfl), hO⟩ (by dsimp only; omega)) ⟨rfl, rfl, rfl, rfl, rfl, lookI rfl (by dsimp only; omega), trivial⟩ HS.last
        · refine GT_st_g rfl rfl rfl rfl rfl rfl rfl (V_move rfl rfl) ?_;refine GT_st_g rfl rfl rfl rfl rfl rfl rfl (V_move rfl rfl) ?_;refine GT_st_g rfl rfl rfl rfl rfl rfl rfl (V_indexStr rfl rfl rfl Tryz.underlying9 rfl (by omega)) ?_;refine GT_st_g rfl rfl rfl rfl rfl rfl rfl (V_move rfl rfl) ?_;refine GT_st_g rfl rfl rfl rfl rfl rfl rfl (V_eql rfl rfl rfl) ?_;refine GT_st rfl rfl rfl rfl (V_pick_f rfl rfl rfl) ?_;refine GT_nil ?_;refine GE_cond rfl (fun q4 => ?_) (fun q4 => ?_)
          · refine GE_seq ?_;refine GE_slots (L' := [(0, _), (1, _), (2, _), (7, _), (8, _), (9, _), (15, _), (16, _), (17, _), (18, _), (27, _), (28, _), (29, _), (30, _), (31, _)]) ⟨rfl, rfl, rfl, rfl, rfl, rfl, rfl, rfl, rfl, rfl, rfl, rfl, rfl, rfl, rfl, trivial⟩ ?_;refine GE_plain (.st 0 (.st 1 (.st 2 (.st 3 (.st 4 (.ld 5 [] (.ld 6 [] (.ld 7 [] .nil)))))))) rfl ?_;refine GT_st rfl rfl rfl rfl (V_move rfl rfl) ?_;refine GT_st rfl rfl rfl rfl (V_move rfl rfl) ?_;refine GT_st rfl rfl rfl rfl (V_move rfl rfl) ?_;refine GT_st rfl rfl rfl rfl (V_move rfl rfl) ?_;refine GT_st rfl rfl rfl rfl (V_sliceStrL (lo := fr) (hi := i) rfl rfl rfl rfl Tryz.underlying9 rfl rfl ⟨by omega, by omega⟩) ?_;refine GT_buildSlice (z := [_]) rfl rfl rfl rfl rfl Tryz.underlying113 zc_9 sz_9 (by decide) rfl rfl (fun _ => GR_nil) (fun b38 => ?_)
            refine GT_append (enc := eB) (m := [(s.drop fr).take (i - fr)]) rfl rfl rfl rfl rfl rfl rfl hO (fun w m => RdL.own' m eB_len) Tryz.underlying113 zc_9 sz_9 ⟨rfl, by decide⟩ by_9 ⟨by simp only [List.length_singleton]; omega, by simp only [List.length_singleton]; omega⟩ eB_len eB_one (fun _ _ _ _ => GR_nil) (fun A3 c3 I3 hO3 => ?_)
            refine GT_ldv rfl rfl rfl rfl rfl (V_assign rfl rfl) (GR_nil) ?_;refine GT_nil ?_;refine GE_slots (L' := [(0, _), (1, _), (2, _), (7, _), (9, _), (15, _), (16, _), (17, _), (18, _), (27, _), (28, _), (29, _), (30, _), (31, _)]) ⟨rfl, rfl, rfl, rfl, rfl, rfl, rfl, rfl, rfl, rfl, rfl, rfl, rfl, rfl, trivial⟩ ?_;refine GE_plain (.st 0 (.st 1 (.st 2 .nil))) rfl ?_;refine GT_st rfl rfl rfl rfl (V_move rfl rfl) ?_;refine GT_st rfl rfl rfl rfl (V_add rfl rfl rfl (wrap_i64 (by omega))) ?_;refine GT_st rfl rfl rfl rfl (V_assign rfl rfl) ?_;refine GT_nil ?_;refine GE_inBlock ?_;refine GE_plain (.st 0 (.st 1 (.ld 2 [] .nil))) rfl ?_;refine GT_st rfl rfl rfl rfl (V_move rfl rfl) ?_;refine GT_st rfl rfl rfl rfl (V_add rfl rfl rfl (wrap_i64 (by omega))) ?_;refine GT_ldv rfl rfl rfl rfl rfl (V_assign rfl rfl) (GR_nil) ?_;refine GT_nil ?_
            first
              | exact GE_to (ih (i + 1, i + 1, out ++ [(s.drop fr).take (i - fr)], (A3, c3, I3)) ⟨⟨by dsimp only; omega, by dsimp only; rw [List.length_append, List.length_singleton]; omega⟩, by first | exact cutOk_end hk (by omega) | exact cutOk_sep hk (by omega) (u8_eq (by omega)), hO3⟩ (by dsimp only; omega)) ⟨rfl, rfl, rfl, rfl, lookI rfl (by dsimp only; omega), lookI rfl (by dsimp only; omega), trivial⟩ HS.last
              | exact GE_to (ih (i + 1, fr, out, y) ⟨⟨by dsimp only; omega, hom⟩, cutOk_no hk (by omega) (fun q => by rw [← q] at q4; exact q4 rfl), hO⟩ (by dsimp only; omega)) ⟨rfl, rfl, rfl, rfl, rfl, lookI rfl (by dsimp only; omega), trivial⟩ HS.last
          · refine GE_skip ?_;refine GE_inBlock ?_;refine GE_slots (L' := [(0, _), (1, _), (2, _), (7, _), (8, _), (9, _), (15, _), (16, _), (17, _), (18, _), (27, _), (28, _), (29, _), (30, _), (31, _)]) ⟨rfl, rfl, rfl, rfl, rfl, rfl, rfl, rfl, rfl, rfl, rfl, rfl, rfl, rfl, rfl, trivial⟩ ?_;refine GE_plain (.st 0 (.st 1 (.ld 2 [] .nil))) rfl ?_;refine GT_st rfl rfl rfl rfl (V_move rfl rfl) ?_;refine GT_st rfl rfl rfl rfl (V_add rfl rfl rfl (wrap_i64 (by omega))) ?_;refine GT_ldv rfl rfl rfl rfl rfl (V_assign rfl rfl) (GR_nil) ?_;refine GT_nil ?_
            first
              | exact GE_to (ih (i + 1, i + 1, out ++ [(s.drop fr).take (i - fr)], (A3, c3, I3)) ⟨⟨by dsimp only; omega, by dsimp only; rw [List.length_append, List.length_singleton]; omega⟩, by first | exact cutOk_end hk (by omega) | exact cutOk_sep hk (by omega) (u8_eq (by omega)), hO3⟩ (by dsimp only; omega)) ⟨rfl, rfl, rfl, rfl, lookI rfl (by dsimp only; omega), lookI rfl (by dsimp only; omega), trivial⟩ HS.last
              | exact GE_to (ih (i + 1, fr, out, y) ⟨⟨by dsimp only; omega, hom⟩, cutOk_no hk (by omega) (fun q => by rw [← q] at q4; exact q4 rfl), hO⟩ (by dsimp only; omega)) ⟨rfl, rfl, rfl, rfl, rfl, lookI rfl (by dsimp only; omega), trivial⟩ HS.last
      · have eo := cutOk_out (m := m) hk (.inr (by omega)) hom
        refine GE_exit rfl ?_;refine GE_seq ?_;refine GE_slots (L' := [(7, _)]) ⟨rfl, trivial⟩ ?_;refine GE_plain (.st 0 (.st 1 .nil)) rfl ?_;refine GT_st rfl rfl rfl rfl (V_move rfl rfl) ?_;refine GT_st rfl rfl rfl rfl (V_assign rfl rfl) ?_;refine GT_nil ?_;refine GE_ret Tryz.func42 rfl (fun w hw => ?_)
        rw [← eo]; exact ⟨y, hO, rfl, hw⟩
    · have eo := cutOk_out (m := m) hk (.inl (by omega)) hom
      refine GT_skip rfl rfl rfl rfl rfl (by decide) rfl rfl ?_;refine GT_skip rfl rfl rfl rfl rfl (by decide) rfl rfl ?_;refine GT_skip rfl rfl rfl rfl rfl (by decide) rfl rfl ?_;refine GT_skip rfl rfl rfl rfl rfl (by decide) rfl rfl ?_;refine GT_st rfl rfl rfl rfl (V_pick_f rfl rfl rfl) ?_;refine GT_nil ?_;refine GE_cond_f rfl ?_;refine GE_exit rfl ?_;refine GE_seq ?_;refine GE_slots (L' := [(7, _)]) ⟨rfl, trivial⟩ ?_;refine GE_plain (.st 0 (.st 1 .nil)) rfl ?_;refine GT_st rfl rfl rfl rfl (V_move rfl rfl) ?_;refine GT_st rfl rfl rfl rfl (V_assign rfl rfl) ?_;refine GT_nil ?_;refine GE_ret Tryz.func42 rfl (fun w hw => ?_)
      rw [← eo]; exact ⟨y, hO, rfl, hw⟩
  · exact ⟨⟨Nat.zero_le _, Nat.zero_le _⟩, cutOk_0 c s, Own.nil⟩
end
end Go.Proofs.YtpbflnfcgcldkaaGreatDoor.Take
/- An insert: the lines of a text on the pages of a folded sheet, in plain Lean. -/
namespace Go.Proofs.YtpbflnfcgcldkaaGreatDoor.Ins
open Go.Sx
open Slv (pagesL pageN stk FoldsOk Leaf page_at page_some pages_in stk_bd stk_len pagesL_len pow5n inS pow5)
open Take (Tk Prt tx lnB rowB pcs pcs_tx prog_each gErr)
/-! ### rows and columns -/
theorem stk_snoc (k : Int) : ∀ t : List Int, (stk (t ++ [k])).2.1 = (stk t).2.1 * (if k = 2 then 2 else 1) ∧ (stk (t ++ [k])).2.2 = (stk t).2.2 * (if k = 2 then 1 else 2)
  | [] => ⟨rfl, rfl⟩
  | a :: t => by
    obtain ⟨h1, h2⟩ := stk_snoc k t
    constructor
    · show (stk (t ++ [k])).2.1 * _ = (stk t).2.1 * _ * _
      rw [h1, Int.mul_right_comm]
    · show (stk (t ++ [k])).2.2 * _ = (stk t).2.2 * _ * _
      rw [h2, Int.mul_right_comm]
theorem stk_prod : ∀ f : List Int, (stk f).2.1 * (stk f).2.2 = 2 ^ f.length
  | [] => rfl
  | k :: t => by
    show (stk t).2.1 * (if k = 2 then 2 else 1) * ((stk t).2.2 * (if k = 2 then 1 else 2)) = _
    have := stk_prod t
    rw [List.length_cons, Int.pow_succ, ← this]
    split
    · rw [Int.mul_one, Int.mul_right_comm]
    · rw [Int.mul_one, Int.mul_assoc]
def gR (f : List Int) : Nat := (stk f).2.1.toNat
def gC (f : List Int) : Nat := (stk f).2.2.toNat
theorem gR_is {f : List Int} (h : f.length ≤ 5) : (stk f).2.1 = (gR f : Nat) ∧ 1 ≤ gR f ∧ gR f ≤ 32 := by
  have := (stk_bd f h).1; have := pow5 f h; unfold gR; omega
theorem gC_is {f : List Int} (h : f.length ≤ 5) : (stk f).2.2 = (gC f : Nat) ∧ 1 ≤ gC f ∧ gC f ≤ 32 := by
  have := (stk_bd f h).2; have := pow5 f h; unfold gC; omega
theorem gRC {f : List Int} (h : f.length ≤ 5) : (pagesL f).length = 2 * (gR f * gC f) ∧ gR f * gC f ≤ 32 := by
  have h1 := stk_prod f
  rw [(gR_is h).1, (gC_is h).1] at h1
  have h2 : gR f * gC f = 2 ^ f.length := by exact_mod_cast h1
  rw [pagesL_len, h2]
  exact ⟨rfl, pow5n f h⟩
theorem gR_snoc {f : List Int} {i : Nat} (h : f.length ≤ 5) (hi : i < f.length) : ((gR (f.take (i + 1)) : Nat) : Int) = (gR (f.take i) : Nat) * (if f.getD i default = 2 then 2 else 1) ∧ ((gC (f.take (i + 1)) : Nat) : Int) = (gC (f.take i) : Nat) * (if f.getD i default = 2 then 1 else 2) := by
  have e : f.take (i + 1) = f.take i ++ [f.getD i default] := by rw [List.take_add_one, List.getD, List.getElem?_eq_getElem hi]; rfl
  obtain ⟨h1, h2⟩ := stk_snoc (f.getD i default) (f.take i)
  have l1 : (f.take i).length ≤ 5 := by rw [List.length_take]; omega
  have l2 : (f.take (i + 1)).length ≤ 5 := by rw [List.length_take]; omega
  rw [← e, (gR_is l1).1, (gR_is l2).1] at h1
  rw [← e, (gC_is l1).1, (gC_is l2).1] at h2
  exact ⟨h1, h2⟩
theorem gT_bd {f : List Int} {i : Nat} (h : f.length ≤ 5) : (1 ≤ gR (f.take i) ∧ gR (f.take i) ≤ 32) ∧ (1 ≤ gC (f.take i) ∧ gC (f.take i) ≤ 32) :=
  have l1 : (f.take i).length ≤ 5 := by rw [List.length_take]; omega
  ⟨(gR_is l1).2, (gC_is l1).2⟩
/-! ### the sheet -/
section
variable {l : List Tk} {p : List Prt} {f : List Int}
def lnP (l : List Tk) (p : List Prt) (i : Nat) : List UInt8 := if i < p.length then lnB l (p.getD i default) else []
def cel (l : List Tk) (p : List Prt) (f : List Int) (r c : Nat) (b : Bool) : List UInt8 :=
  match pageN f r c b with
  | some i => lnP l p i
  | none => []
def shv (l : List Tk) (p : List Prt) (f : List Int) (j : Nat) : List UInt8 := cel l p f (j / 2 / gC f) (j / 2 % gC f) (decide (((j % 2 : Nat) : Int) = 1))
def shN (l : List Tk) (p : List Prt) (f : List Int) (m : Nat) : List (List UInt8) := (List.range (pagesL f).length).map fun j => if j < m then shv l p f j else []
theorem shN_len (l : List Tk) (p : List Prt) (f : List Int) (m : Nat) : (shN l p f m).length = (pagesL f).length := by rw [shN, List.length_map, List.length_range]
theorem shN_zero (l : List Tk) (p : List Prt) (f : List Int) : shN l p f 0 = List.replicate (pagesL f).length [] := by
  apply List.ext_getElem
  · rw [shN_len, List.length_replicate]
  · intro i h1 h2; simp [shN]
theorem shN_at {m j : Nat} (h : j < (pagesL f).length) : (shN l p f m).getD j default = if j < m then shv l p f j else [] := by simp [shN, List.getD, h]
theorem shN_set {m : Nat} (_h : m < (pagesL f).length) : (shN l p f m).set m (shv l p f m) = shN l p f (m + 1) := by
  apply List.ext_getElem
  · rw [List.length_set, shN_len, shN_len]
  · intro i h1 h2
    rw [List.getElem_set]
    simp only [shN, List.getElem_map, List.getElem_range]
    by_cases e : m = i
    · subst e; rw [if_pos rfl, if_pos (by omega)]
    · rw [if_neg e]
      by_cases q : i < m
      · rw [if_pos q, if_pos (by omega)]
      · rw [if_neg q, if_neg (by omega)]
theorem shN_skip {m : Nat} (e : shv l p f m = []) : shN l p f (m + 1) = shN l p f m := by
  unfold shN
  apply List.map_congr_left
  intro j _
  by_cases q : j = m
  · subst q; rw [if_pos (by omega), if_neg (by omega), e]
  · by_cases q2 : j < m
    · rw [if_pos (by omega), if_pos q2]
    · rw [if_neg (by omega), if_neg q2]
theorem shv_at {r c k : Nat} (hc : c < gC f) (hk : k < 2) : shv l p f (2 * (r * gC f + c) + k) = cel l p f r c (decide ((k : Int) = 1)) := by
  have h1 : (2 * (r * gC f + c) + k) / 2 = r * gC f + c := by omega
  have h2 : (2 * (r * gC f + c) + k) % 2 = k := by omega
  have h3 : (r * gC f + c) / gC f = r := by
    rw [Nat.mul_comm, Nat.mul_add_div (by omega), Nat.div_eq_of_lt hc, Nat.add_zero]
  have h4 : (r * gC f + c) % gC f = c := by rw [Nat.mul_comm, Nat.mul_add_mod, Nat.mod_eq_of_lt hc]
  unfold shv
  rw [h1, h2, h3, h4]
theorem ix_lt {r c R C : Nat} (hr : r < R) (hc : c < C) : r * C + c + 1 ≤ R * C := by
  have h1 : (r + 1) * C ≤ R * C := Nat.mul_le_mul_right C hr
  rw [Nat.add_mul, Nat.one_mul] at h1
  omega
theorem pg_at {r c : Nat} (b : Bool) (h : f.length ≤ 5) (hr : r < gR f) (hc : c < gC f) : ∃ i, pageN f r c b = some i ∧ i < (pagesL f).length := by
  obtain ⟨i, h1, h2, _⟩ := page_some (f := f) (r := r) (c := c) (b := b) (by omega) (by rw [(gR_is h).1]; omega) (by omega) (by rw [(gC_is h).1]; omega)
  exact ⟨i, h1, h2⟩
theorem cel_some {r c i : Nat} {b : Bool} (h : pageN f r c b = some i) : cel l p f r c b = lnP l p i := by unfold cel; rw [h]
theorem rd_at {i : Nat} (h : f.length ≤ 5) (hi : i < (pagesL f).length) : ∃ r c : Nat, ((pagesL f).getD i default).row = r ∧ ((pagesL f).getD i default).col = c ∧ r < gR f ∧ c < gC f ∧ cel l p f r c ((pagesL f).getD i default).back = lnP l p i := by
  have hm : (pagesL f).getD i default ∈ pagesL f := by rw [List.getD, List.getElem?_eq_getElem hi]; exact List.getElem_mem hi
  obtain ⟨⟨a1, a2⟩, b1, b2⟩ := pages_in f _ hm
  rw [(gR_is h).1] at a2
  rw [(gC_is h).1] at b2
  have hp := page_at hi
  generalize (pagesL f).getD i default = x at *
  have e1 : x.row = (x.row.toNat : Nat) := by omega
  have e2 : x.col = (x.col.toNat : Nat) := by omega
  refine ⟨x.row.toNat, x.col.toNat, e1, e2, by omega, by omega, ?_⟩
  rw [e1, e2] at hp
  exact cel_some hp
theorem tx_succ {i : Nat} : tx l (p.take (i + 1)) = tx l (p.take i) ++ lnP l p i := by
  unfold lnP
  by_cases hi : i < p.length
  · rw [if_pos hi, List.take_add_one, List.getD, List.getElem?_eq_getElem hi, Take.tx_app]
    show _ ++ tx l [p[i]] = _
    rw [Take.tx_one]; rfl
  · rw [if_neg hi, List.take_of_length_le (by omega), List.take_of_length_le (by omega), List.append_nil]
theorem lnB_ne (l : List Tk) (x : Prt) : lnB l x ≠ [] := by unfold lnB; simp
theorem lnP_ne {i : Nat} (h : i < p.length) : lnP l p i ≠ [] := by unfold lnP; rw [if_pos h]; exact lnB_ne l _
theorem lnP_nil {i : Nat} (h : ¬ i < p.length) : lnP l p i = [] := by unfold lnP; rw [if_neg h]
theorem lines_len (l : List Tk) (p : List Prt) : (p.map (rowB l) ++ [[]]).length = p.length + 1 := by rw [List.length_append, List.length_map]; rfl
theorem lines_at {i : Nat} (h : i < p.length) : (p.map (rowB l) ++ [[]]).getD i default ++ [10] = lnP l p i := by
  unfold lnP
  rw [if_pos h, List.getD, List.getD, List.getElem?_append_left (by rw [List.length_map]; exact h), List.getElem?_map, List.getElem?_eq_getElem h]; rfl
theorem tx_pre (l : List Tk) (p : List Prt) (i : Nat) : (tx l (p.take i)).length ≤ (tx l p).length := by
  have e : tx l p = tx l (p.take i) ++ tx l (p.drop i) := by rw [← Take.tx_app, List.take_append_drop]
  rw [e, List.length_append]; omega
theorem ln_le (l : List Tk) (p : List Prt) (i : Nat) : (tx l (p.take i)).length + (lnP l p i).length ≤ (tx l p).length := by
  have := tx_pre l p (i + 1)
  rw [tx_succ, List.length_append] at this
  exact this
end
end Go.Proofs.YtpbflnfcgcldkaaGreatDoor.Ins
