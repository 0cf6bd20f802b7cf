/- Silences, in plain Lean; names that are apart. -/
import Derived.Test.YtdcjgjopmicidaaDoorTaS
import Derived.Test.YtdcjgjopmicidaaDoorSxH
namespace Go.Proofs.YtdcjgjopmicidaaDoor
open Go.Sx

/-! ### silences -/
abbrev Iv := Int × Int
def eIv (x : Iv) : List Value := [I x.1, I x.2]
theorem eIv_len (x : Iv) : (eIv x).length = 2 := rfl
theorem eIv_one : ∀ x, ∀ u ∈ eIv x, u.oneCell' = true := by intro x u hu; simp only [eIv, List.mem_cons, List.not_mem_nil, or_false] at hu; rcases hu with rfl | rfl <;> rfl
def quiet (a : Int) (x : Sam) : Bool := decide (amt x.l ≤ a) && decide (amt x.r ≤ a)
theorem quiet_iff {a : Int} {x : Sam} : quiet a x = true ↔ amt x.l ≤ a ∧ amt x.r ≤ a := by simp [quiet]
def addIv (least : Int) (out : List Iv) (fr to : Int) : List Iv := if least ≤ to - fr then out ++ [(fr, to)] else out
/-- the silences that ended among the first n samples; and where the next one begins -/
def silN (s : List Sam) (a least : Int) : Nat → List Iv × Nat
  | 0 => ([], 0)
  | n + 1 => if quiet a (s.getD n default) = true then silN s a least n else (addIv least (silN s a least n).1 (silN s a least n).2 n, n + 1)
def sil (s : List Sam) (a least : Int) : List Iv := addIv least (silN s a least s.length).1 (silN s a least s.length).2 s.length
theorem silN_q {s : List Sam} {a least : Int} {n : Nat} (h : quiet a (s.getD n default) = true) : silN s a least (n + 1) = silN s a least n := by rw [silN, if_pos h]
theorem silN_l {s : List Sam} {a least : Int} {n : Nat} (h : quiet a (s.getD n default) = false) : silN s a least (n + 1) = (addIv least (silN s a least n).1 (silN s a least n).2 n, n + 1) := by rw [silN, if_neg (by rw [h]; decide)]
theorem silN_le {s : List Sam} {a least : Int} : ∀ n, (silN s a least n).2 ≤ n := by
  intro n
  induction n with
  | zero => exact Nat.le_refl _
  | succ n ih => rw [silN]; split <;> (try dsimp only) <;> omega
theorem addIv_len {least : Int} {out : List Iv} {fr to : Int} : (addIv least out fr to).length ≤ out.length + 1 := by unfold addIv; split <;> simp
theorem silN_len {s : List Sam} {a least : Int} : ∀ n, (silN s a least n).1.length ≤ n := by
  intro n
  induction n with
  | zero => exact Nat.le_refl _
  | succ n ih =>
    rw [silN]; split
    · omega
    · dsimp only; have := addIv_len (least := least) (out := (silN s a least n).1) (fr := (silN s a least n).2) (to := n); omega
theorem sil_len {s : List Sam} {a least : Int} : (sil s a least).length ≤ s.length + 1 := by
  unfold sil
  have h1 := addIv_len (least := least) (out := (silN s a least s.length).1) (fr := (silN s a least s.length).2) (to := s.length)
  have h2 := silN_len (s := s) (a := a) (least := least) s.length
  omega
/-- the error of Silences -/
def iErr (s : List Sam) (a least : Int) : Int := if sErr s = 0 then (if (betw a 0 32767 && betw least 1 4096) = true then 0 else 3) else sErr s
def silL (s : List Sam) (a least : Int) : List Iv := if iErr s a least = 0 then sil s a least else []

/-! ### names that are apart -/
instance decMem (k : ByteArray) (ks : List ByteArray) : Decidable (k ∈ ks) := decidable_of_iff ((ks.any fun x => decide (x = k)) = true) (by simp)
def kad (ks : List ByteArray) (k : ByteArray) : List ByteArray := if k ∈ ks then ks else ks ++ [k]
def uniq : List ByteArray → List ByteArray := List.foldl kad []
theorem uniq_snoc (l : List ByteArray) (k : ByteArray) : uniq (l ++ [k]) = kad (uniq l) k := by unfold uniq; rw [List.foldl_append]; rfl
theorem kad_mem {ks : List ByteArray} {k x : ByteArray} : x ∈ kad ks k ↔ x ∈ ks ∨ x = k := by
  unfold kad
  split
  · rename_i h; constructor
    · exact .inl
    · rintro (h2 | rfl); exact h2; exact h
  · simp
theorem uniq_rev (P : List ByteArray → Prop) (h0 : P []) (h1 : ∀ l k, P l → P (l ++ [k])) : ∀ l, P l := by
  intro l
  have : ∀ n, ∀ l : List ByteArray, l.length = n → P l := by
    intro n
    induction n with
    | zero => intro l hl; rw [List.length_eq_zero_iff.1 hl]; exact h0
    | succ n ih =>
      intro l hl
      have hne : l ≠ [] := by intro e; rw [e] at hl; cases hl
      rw [← List.dropLast_concat_getLast hne]
      exact h1 _ _ (ih _ (by simp [hl]))
  exact this _ l rfl
theorem uniq_mem (l : List ByteArray) : ∀ x, x ∈ uniq l ↔ x ∈ l := by
  refine uniq_rev (fun l => ∀ x, x ∈ uniq l ↔ x ∈ l) (by simp [uniq]) ?_ l
  intro l k ih x
  rw [uniq_snoc, kad_mem, ih]; simp
theorem uniq_len (l : List ByteArray) : (uniq l).length ≤ l.length ∧ ((uniq l).length = l.length ↔ l.Nodup) := by
  refine uniq_rev (fun l => (uniq l).length ≤ l.length ∧ ((uniq l).length = l.length ↔ l.Nodup)) (by simp [uniq]) ?_ l
  intro l k ⟨ih1, ih2⟩
  rw [uniq_snoc]
  have hm := uniq_mem l k
  unfold kad
  rw [List.nodup_append]
  split
  · rename_i h
    refine ⟨by simp; omega, ⟨fun e => ?_, fun e => ?_⟩⟩
    · simp at e; omega
    · exact absurd rfl (e.2.2 k (hm.1 h) k (List.mem_singleton.2 rfl))
  · rename_i h
    refine ⟨by simp; omega, ⟨fun e => ?_, fun e => ?_⟩⟩
    · simp at e
      refine ⟨ih2.1 e, by simp, fun a ha b hb => ?_⟩
      rw [List.mem_singleton] at hb; subst hb; rintro rfl; exact h (hm.2 ha)
    · simp; exact ih2.2 e.1
/-- the keys of a map that counts -/
theorem mput_keys (ks : List KV) (k : ByteArray) (z : Int) : (mput ks k z).map (·.1) = kad (ks.map (·.1)) k := by
  unfold mput kad
  cases h : midx ks k with
  | none => rw [if_neg (midx_none.1 h)]; simp
  | some i =>
    have hi := midx_some h
    rw [if_pos]
    · apply List.ext_getElem (by simp)
      intro j h1 h2
      simp only [List.getElem_map, List.getElem_set]
      split
      · rename_i e; subst e; rw [← hi.2]; simp [List.getD, hi.1]
      · rfl
    · rw [List.mem_map]
      exact ⟨ks.getD i default, getD_mem hi.1, hi.2⟩
theorem mget_bd {ks : List KV} {k : ByteArray} {B : Int} (h : ∀ e ∈ ks, 0 ≤ e.2 ∧ e.2 ≤ B) (hB : 0 ≤ B) : 0 ≤ mget ks k ∧ mget ks k ≤ B := by
  unfold mget
  cases hq : midx ks k with
  | none => exact ⟨Int.le_refl _, hB⟩
  | some i => exact h _ (getD_mem (midx_some hq).1)
theorem mput_bd {ks : List KV} {k : ByteArray} {z B : Int} (h : ∀ e ∈ ks, 0 ≤ e.2 ∧ e.2 ≤ B) (hz : 0 ≤ z ∧ z ≤ B) : ∀ e ∈ mput ks k z, 0 ≤ e.2 ∧ e.2 ≤ B := by
  unfold mput
  intro e he
  cases hq : midx ks k with
  | none =>
    rw [hq] at he
    rcases List.mem_append.1 he with he | he
    · exact h e he
    · rw [List.mem_singleton.1 he]; exact hz
  | some i =>
    rw [hq] at he
    rcases List.mem_or_eq_of_mem_set he with he | rfl
    · exact h e he
    · exact hz
end Go.Proofs.YtdcjgjopmicidaaDoor
