/- Programmes that are joined, made louder, mirrored: in plain Lean. -/
import Derived.Test.YtnklkobhjdkblaaDoorTaH
namespace Go.Proofs.YtnklkobhjdkblaaDoor
open Go.Sx

/-! ### joined -/
section
variable {l : List Tk} {p q : List Prt}
theorem gErr_app (hp : gErr l p = 0) (hq : gErr l q = 0) (h1 : p.length ≤ 8) (h2 : q.length ≤ 8) : gErr l (p ++ q) = 0 ∨ gErr l (p ++ q) = 15 := by
  have hP := gErr_zero.1 hp
  have hQ := gErr_zero.1 hq
  have ha : ∀ r, ProgOk l r → r.all (goodP l) = true := fun r hr => all_getD.2 fun i hi => goodP_iff.2 (hr.each i hi)
  unfold gErr
  rw [if_pos (lErr_zero.2 hP.tks), if_neg (by rw [List.length_append]; omega), List.all_append, ha p hP, ha q hQ, if_pos (show (true && true) = true from rfl)]
  split
  · exact .inl rfl
  · exact .inr rfl
theorem pt_app1 {i : Nat} (hi : i < p.length) : pt (p ++ q) i = pt p i := by simp [pt, List.getD, List.getElem?_append_left hi]
theorem pt_app2 : pt (p ++ q) p.length = pt q 0 := by unfold pt; rw [List.getD, List.getElem?_append_right (Nat.le_refl _), Nat.sub_self]; rfl
theorem bgn_le {p : List Prt} (hP : ProgOk l p) : ∀ i j, i ≤ j → j < p.length → bgn p i ≤ bgn p j := by
  intro i j hij
  induction j with
  | zero => intro _; rw [show i = 0 by omega]; exact Int.le_refl _
  | succ j ih =>
    intro hj
    by_cases e : i = j + 1
    · rw [e]; exact Int.le_refl _
    · have h1 := ih (by omega) (by omega)
      have h2 := ((hP.pos (j + 1) hj).2.1 (by omega)).1
      simp only [Nat.add_sub_cancel] at h2; omega
theorem join_cut (hP : ProgOk l p) (hQ : ProgOk l q) (h0 : 0 < q.length) (hW : ProgOk l (p ++ q)) : CutH l (p ++ q) p.length (fin p + (pt q 0).gap) ∧ 0 ≤ (pt q 0).gap ∧ (p ++ q).take p.length = p ∧ cutP (p ++ q) p.length (fin p + (pt q 0).gap) = q.set 0 (gapd (pt q 0) 0) := by
  have hf := fin_nonneg hP
  have hb0 : bgn q 0 = (pt q 0).gap := by unfold bgn; rw [List.take_zero, fin_nil, Int.zero_add]
  have hg : 0 ≤ (pt q 0).gap := by have := (hQ.pos 0 h0).1 rfl; omega
  have hl : (p ++ q).length = p.length + q.length := List.length_append ..
  have ht : (p ++ q).take p.length = p := List.take_left
  have hbn : bgn (p ++ q) p.length = fin p + (pt q 0).gap := by unfold bgn; rw [ht, pt_app2]
  refine ⟨⟨hW, by omega, by omega, ?_, fun i hi => ?_, fun i hi hl2 => ?_⟩, hg, ht, ?_⟩
  · have h1 := en_fin hW (i := p.length) (by omega)
    have h2 := lng_pos (hW.each p.length (by omega))
    have h3 : en (p ++ q) p.length = bgn (p ++ q) p.length + lng (pt (p ++ q) p.length) := rfl
    omega
  · have h1 := en_fin hP (i := i) hi
    have h2 : en (p ++ q) i = en p i := by
      have := en_take (p := p ++ q) (n := p.length) hi
      rw [ht] at this; exact this.symm
    omega
  · rw [← hbn]; exact bgn_le hW _ _ hi hl2
  · unfold cutP; rw [hbn, pt_app2, List.drop_left, Int.sub_self]
end

/-! ### louder -/
def levd (x : Prt) (g : Int) : Prt := { x with lev := (x.lev * g).tdiv 1000 }
def pL (p : List Prt) (g : Int) : List Prt := p.map fun x => levd x g
section
variable {l : List Tk} {p : List Prt} {g : Int}
theorem pL_len : (pL p g).length = p.length := by simp [pL]
theorem pL_get {i : Nat} (hi : i < p.length) : pt (pL p g) i = levd (pt p i) g := by simp [pL, pt, List.getD, hi]
theorem fin_map {f : Prt → Prt} (hf : ∀ x, (f x).gap = x.gap ∧ (f x).fr = x.fr ∧ (f x).to = x.to) (p : List Prt) : fin (p.map f) = fin p := by
  unfold fin; rw [List.map_map]; congr 1; apply List.map_congr_left; intro x _
  obtain ⟨h1, h2, h3⟩ := hf x
  simp only [Function.comp_apply]; rw [h1, h2, h3]
theorem bgn_map {f : Prt → Prt} (hf : ∀ x, (f x).gap = x.gap ∧ (f x).fr = x.fr ∧ (f x).to = x.to) {p : List Prt} {i : Nat} (hi : i < p.length) : bgn (p.map f) i = bgn p i ∧ en (p.map f) i = en p i ∧ lng (pt (p.map f) i) = lng (pt p i) := by
  have e : pt (p.map f) i = f (pt p i) := by simp [pt, List.getD, hi]
  obtain ⟨h1, h2, h3⟩ := hf (pt p i)
  have eb : bgn (p.map f) i = bgn p i := by unfold bgn; rw [← List.map_take, fin_map hf, e, h1]
  have el : lng (pt (p.map f) i) = lng (pt p i) := by unfold lng; rw [e, h2, h3]
  exact ⟨eb, by unfold en; rw [eb, el], el⟩
theorem map_ok {m : List Tk} {f : Prt → Prt} (hf : ∀ x, (f x).gap = x.gap ∧ (f x).fr = x.fr ∧ (f x).to = x.to) (hP : ProgOk l p) (hT : TksOk m) (hE : ∀ i, i < p.length → PrtOk m (f (pt p i))) : ProgOk m (p.map f) := by
  have hm := hP.most
  refine ⟨hT, by rw [List.length_map]; exact hm, fun i hi => ?_, fun i hi => ?_, by rw [fin_map hf]; exact hP.fin⟩
  · rw [List.length_map] at hi
    rw [show pt (p.map f) i = f (pt p i) by simp [pt, List.getD, hi]]
    exact hE i hi
  · rw [List.length_map] at hi
    have h0 := hP.pos i hi
    have b0 := bgn_map hf hi
    unfold posOk at h0 ⊢
    rw [b0.1, b0.2.1]
    refine ⟨h0.1, fun h => ?_, fun h => ?_⟩
    · have b1 := bgn_map hf (p := p) (i := i - 1) (by omega); rw [b1.1, b1.2.1]; exact h0.2.1 h
    · have b1 := bgn_map hf (p := p) (i := i - 2) (by omega); rw [b1.2.1]; exact h0.2.2 h
theorem levd_f : ∀ x : Prt, (levd x g).gap = x.gap ∧ (levd x g).fr = x.fr ∧ (levd x g).to = x.to := fun _ => ⟨rfl, rfl, rfl⟩
theorem pL_ok (hP : ProgOk l p) (h0 : 0 ≤ g) (hfit : ∀ i, i < p.length → (levd (pt p i) g).lev ≤ 4000) : ProgOk l (pL p g) := by
  refine map_ok levd_f hP hP.tks fun i hi => ?_
  have h := hP.each i hi
  refine ⟨h.tk0, h.tk1, h.fr0, h.frto, h.to1, h.gap, h.inn, h.out, ⟨?_, hfit i hi⟩⟩
  exact Int.tdiv_nonneg (Int.mul_nonneg h.lev.1 h0) (by decide)
theorem mixN_map {f : Prt → Prt} (hf : ∀ x, (f x).gap = x.gap ∧ (f x).fr = x.fr ∧ (f x).to = x.to) {va vb : Nat → Int → Sam} (hv : ∀ i k, i < p.length → va i k = vb i k) : ∀ n t, n ≤ p.length → mixN (p.map f) va n t = mixN p vb n t := by
  intro n t
  induction n with
  | zero => intro _; rfl
  | succ n ih => intro hn; have b := bgn_map hf (p := p) (i := n) (by omega); unfold mixN; rw [b.1, b.2.1, ih (by omega), hv n _ (by omega)]
theorem mix_map {f : Prt → Prt} (hf : ∀ x, (f x).gap = x.gap ∧ (f x).fr = x.fr ∧ (f x).to = x.to) {va vb : Nat → Int → Sam} (hv : ∀ i k, i < p.length → va i k = vb i k) : mix (p.map f) va = mix p vb := by
  unfold mix
  rw [fin_map hf, List.length_map]
  apply List.map_congr_left
  intro t _
  exact mixN_map hf hv p.length t (Nat.le_refl _)
theorem pL_rend : rend l (pL p g) = mix p (vG l p g false) := by
  refine mix_map levd_f fun i k hi => ?_
  unfold vR; rw [pL_get hi]; rfl
/-- amounts of a sum are no more than the sum of the amounts -/
theorem mixN_tri : ∀ n t, amt (mixN p (vG l p g false) n t).l ≤ (mixN p (vH l p g) n t).l ∧ amt (mixN p (vG l p g false) n t).r ≤ (mixN p (vH l p g) n t).r := by
  intro n t
  induction n with
  | zero => exact (show amt 0 ≤ 0 ∧ amt 0 ≤ 0 by decide)
  | succ n ih =>
    unfold mixN
    split
    · have e1 : (vH l p g n (t - bgn p n)).l = amt (vG l p g false n (t - bgn p n)).l := rfl
      have e2 : (vH l p g n (t - bgn p n)).r = amt (vG l p g false n (t - bgn p n)).r := rfl
      simp only [sad]
      rw [e1, e2]
      unfold amt at *
      omega
    · exact ih
theorem pL_quiet (hP : ProgOk l p) (h : okH l p g = true) : sErr (rend l (pL p g)) = 0 := by
  unfold okH at h
  rw [decide_eq_true_iff] at h
  rw [pL_rend]
  obtain ⟨_, h2⟩ := sErr_zero.1 h
  have hf := hP.fin
  refine sErr_zero.2 ⟨by rw [mix_len]; omega, all_getD.2 fun t ht => ?_⟩
  rw [mix_len] at ht
  have h3 := Sam.ok_iff.1 (all_getD.1 h2 t (by rw [mix_len]; exact ht))
  rw [mix_get ht] at h3 ⊢
  have h4 := mixN_tri (l := l) (p := p) (g := g) p.length t
  unfold amt at h4
  exact Sam.ok_iff.2 (by omega)
theorem mixN_alone (hP : ProgOk l p) (ha : ∀ i, i < p.length → 0 ≤ (pt p i).gap) : ∀ n t, n ≤ p.length → mixN p (vH l p g) n t = (mixN p (vG l p g false) n t).amts := by
  intro n t
  induction n with
  | zero => intro _; rfl
  | succ n ih =>
    intro hn
    unfold mixN
    by_cases hc : bgn p n ≤ t ∧ t < en p n
    · rw [if_pos hc, if_pos hc]
      have hz : ∀ v, mixN p v n t = ⟨0, 0⟩ := fun v => mixN_none n fun i hi => by
        have h1 := en_mono hP i (n - 1) (by omega) (by omega)
        have h2 := bgn_succ' (p := p) (i := n) (by omega) (by omega)
        have h3 := ha n (by omega)
        omega
      rw [hz, hz]
      show sad ⟨0, 0⟩ (vG l p g false n (t - bgn p n)).amts = (sad ⟨0, 0⟩ (vG l p g false n (t - bgn p n))).amts
      simp [sad, Sam.amts]
    · rw [if_neg hc, if_neg hc]; exact ih (by omega)
theorem amts_ok (x : Sam) : x.amts.ok = x.ok := by
  rw [Bool.eq_iff_iff, Sam.ok_iff, Sam.ok_iff]; unfold Sam.amts amt; dsimp only; omega
theorem pL_loud (hP : ProgOk l p) (ha : ∀ i, i < p.length → 0 ≤ (pt p i).gap) (h : okH l p g = false) : sErr (rend l (pL p g)) ≠ 0 := by
  intro hs
  rw [pL_rend] at hs
  have : okH l p g = true := by
    unfold okH
    rw [decide_eq_true_iff]
    obtain ⟨_, h2⟩ := sErr_zero.1 hs
    have hf := hP.fin
    refine sErr_zero.2 ⟨by rw [mix_len]; omega, all_getD.2 fun t ht => ?_⟩
    rw [mix_len] at ht
    have h3 := all_getD.1 h2 t (by rw [mix_len]; exact ht)
    rw [mix_get ht] at h3 ⊢
    rw [mixN_alone hP ha _ _ (Nat.le_refl _), amts_ok]; exact h3
  rw [h] at this; cases this
end

/-! ### mirrored -/
def mirS (x : Sam) : Sam := ⟨-x.r, x.l⟩
/-- takes with exchanged channels, and opposite samples -/
structure Mir (l m : List Tk) : Prop where
  len : m.length = l.length
  name : ∀ i, i < l.length → (m.getD i default).name = (l.getD i default).name
  data : ∀ i, i < l.length → (m.getD i default).data = (l.getD i default).data.map mirS
theorem mirS_ok (x : Sam) : (mirS x).ok = x.ok := by
  rw [Bool.eq_iff_iff, Sam.ok_iff, Sam.ok_iff]; unfold mirS; dsimp only; omega
section
variable {l m : List Tk} {p : List Prt}
theorem mir_tks (h : Mir l m) (hT : TksOk l) : TksOk m := by
  have hl := h.len
  refine ⟨by have := hT.one; omega, by have := hT.most; omega, fun t ht => ?_, ?_⟩
  · obtain ⟨i, hi, rfl⟩ := List.getElem_of_mem ht
    have e : m[i] = m.getD i default := by simp [List.getD, hi]
    rw [e]
    obtain ⟨q1, q2, q3, q4⟩ := tErr_zero.1 (hT.each _ (getD_mem (l := l) (i := i) (by omega)))
    have hd := h.data i (by omega)
    refine tErr_zero.2 ⟨by rw [hd, List.length_map]; exact q1, by rw [h.name i (by omega)]; exact q2, by rw [hd, List.length_map]; exact q3, ?_⟩
    rw [hd, List.all_map]
    rw [show (Sam.ok ∘ mirS) = Sam.ok from funext mirS_ok]; exact q4
  · have e : m.map Tk.name = l.map Tk.name := by
      apply List.ext_getElem (by simp [hl])
      intro i h1 h2
      simp only [List.length_map] at h1 h2
      have := h.name i h2
      simp [List.getD, h1, h2] at this
      simpa using this
    rw [e]; exact hT.apart
theorem mir_tk (h : Mir l m) {x : Prt} (hx : PrtOk l x) : (tkOf m x).data = (tkOf l x).data.map mirS := h.data _ (by have := hx.tk0; have := hx.tk1; omega)
theorem mir_ok (h : Mir l m) (hP : ProgOk l p) : ProgOk m p := by
  refine ⟨mir_tks h hP.tks, hP.most, fun i hi => ?_, hP.pos, hP.fin⟩
  have hx := hP.each i hi
  have hl := h.len
  exact ⟨hx.tk0, by have := hx.tk1; omega, hx.fr0, hx.frto, by rw [mir_tk h hx, List.length_map]; exact hx.to1, hx.gap, hx.inn, hx.out, hx.lev⟩
theorem ld_neg (s : Int) (x : Prt) (k lev : Int) : ld (-s) x k lev = -(ld s x k lev) := by unfold ld; rw [Int.neg_mul, Int.neg_tdiv]
theorem mir_snd (h : Mir l m) (hT : TksOk l) {x : Prt} (hx : PrtOk l x) {k lev : Int} (h0 : 0 ≤ k) (h1 : k < lng x) : snd m x k lev = mirS (snd l x k lev) := by
  have hs := smp_ok hT hx h0 h1
  have e : smp m x k = mirS (smp l x k) := by
    unfold smp
    rw [mir_tk h hx]
    have := hs.1
    simp [List.getD, this]
  unfold snd
  rw [e]
  unfold mirS
  dsimp only
  rw [ld_neg]
theorem mixN_mir {va vb : Nat → Int → Sam} (hv : ∀ i k, i < p.length → 0 ≤ k → k < lng (pt p i) → va i k = mirS (vb i k)) : ∀ n t, n ≤ p.length → mixN p va n t = mirS (mixN p vb n t) := by
  intro n t
  induction n with
  | zero => intro _; rfl
  | succ n ih =>
    intro hn
    unfold mixN
    split
    · rename_i hc
      rw [ih (by omega), hv n _ (by omega) (by omega) (by unfold en at hc; omega)]
      unfold sad mirS; dsimp only; congr 1; omega
    · exact ih (by omega)
theorem mix_mir {va vb : Nat → Int → Sam} (hv : ∀ i k, i < p.length → 0 ≤ k → k < lng (pt p i) → va i k = mirS (vb i k)) : mix p va = (mix p vb).map mirS := by
  unfold mix
  rw [List.map_map]
  apply List.map_congr_left
  intro t _
  exact mixN_mir hv p.length t (Nat.le_refl _)
theorem sErr_map {f : Sam → Sam} (hf : ∀ x, (f x).ok = x.ok) (s : List Sam) : sErr (s.map f) = sErr s := by
  unfold sErr; rw [List.length_map, List.all_map, show (Sam.ok ∘ f) = Sam.ok from funext hf]
theorem mir_rend (h : Mir l m) (hP : ProgOk l p) : rend m p = (rend l p).map mirS :=
  mix_mir fun i k hi h0 h1 => mir_snd h hP.tks (hP.each i hi) h0 h1
theorem mir_rErr (h : Mir l m) (hP : ProgOk l p) : rErr m p = rErr l p := by
  rw [rErr, rErr, if_pos (gErr_zero.2 hP), if_pos (gErr_zero.2 (mir_ok h hP)), mir_rend h hP, sErr_map mirS_ok]
def swpS (x : Sam) : Sam := ⟨x.r, x.l⟩
theorem swpS_ok (x : Sam) : (swpS x).ok = x.ok := by
  rw [Bool.eq_iff_iff, Sam.ok_iff, Sam.ok_iff]; unfold swpS; dsimp only; omega
theorem mixN_swp {va vb : Nat → Int → Sam} (hv : ∀ i k, i < p.length → 0 ≤ k → k < lng (pt p i) → va i k = swpS (vb i k)) : ∀ n t, n ≤ p.length → mixN p va n t = swpS (mixN p vb n t) := by
  intro n t
  induction n with
  | zero => intro _; rfl
  | succ n ih =>
    intro hn
    unfold mixN
    split
    · rename_i hc
      rw [ih (by omega), hv n _ (by omega) (by omega) (by unfold en at hc; omega)]; rfl
    · exact ih (by omega)
theorem mir_hd (h : Mir l m) (hP : ProgOk l p) : hd m p = hd l p := by
  refine hd_same fun f => ?_
  unfold okH
  have e : mix p (vH m p f) = (mix p (vH l p f)).map swpS := by
    unfold mix
    rw [List.map_map]
    apply List.map_congr_left
    intro t _
    refine mixN_swp (fun i k hi h0 h1 => ?_) p.length t (Nat.le_refl _)
    unfold vH
    rw [mir_snd h hP.tks (hP.each i hi) h0 h1]
    unfold mirS swpS Sam.amts amt
    dsimp only
    congr 1; omega
  rw [e, sErr_map swpS_ok]
end

/-! ### in another order -/
def revd (n : Nat) (x : Prt) : Prt := { x with tk := (n : Int) - 1 - x.tk }
def pV (n : Nat) (p : List Prt) : List Prt := p.map (revd n)
section
variable {l : List Tk} {p : List Prt}
theorem rev_tks (h : TksOk l) : TksOk l.reverse := by
  refine ⟨by simpa using h.one, by simpa using h.most, fun t ht => h.each t (by simpa using ht), ?_⟩
  rw [List.map_reverse, List.Nodup, List.pairwise_reverse]
  have := h.apart
  rw [List.Nodup] at this
  exact this.imp fun h => Ne.symm h
theorem rev_tk {x : Prt} (hx : PrtOk l x) : tkOf l.reverse (revd l.length x) = tkOf l x := by
  have h0 := hx.tk0; have h1 := hx.tk1
  unfold tkOf revd
  dsimp only
  rw [List.getD, List.getElem?_reverse (by omega), show l.length - 1 - ((l.length : Int) - 1 - x.tk).toNat = x.tk.toNat by omega]; rfl
theorem revd_f (n : Nat) : ∀ x : Prt, (revd n x).gap = x.gap ∧ (revd n x).fr = x.fr ∧ (revd n x).to = x.to := fun _ => ⟨rfl, rfl, rfl⟩
theorem rev_ok (hP : ProgOk l p) : ProgOk l.reverse (pV l.length p) := by
  refine map_ok (revd_f _) hP (rev_tks hP.tks) fun i hi => ?_
  have hx := hP.each i hi
  have h0 := hx.tk0; have h1 := hx.tk1
  exact ⟨by unfold revd; dsimp only; omega, by unfold revd; dsimp only; rw [List.length_reverse]; omega, hx.fr0, hx.frto, by rw [rev_tk hx]; exact hx.to1, hx.gap, hx.inn, hx.out, hx.lev⟩
theorem rev_snd {x : Prt} (hx : PrtOk l x) (k lev : Int) : snd l.reverse (revd l.length x) k lev = snd l x k lev := by
  have e : smp l.reverse (revd l.length x) k = smp l x k := by unfold smp; rw [rev_tk hx]; rfl
  unfold snd; rw [e]; rfl
theorem pV_get {n i : Nat} (hi : i < p.length) : pt (pV n p) i = revd n (pt p i) := by simp [pV, pt, List.getD, hi]
theorem rev_rend (hP : ProgOk l p) : rend l.reverse (pV l.length p) = rend l p := by
  refine mix_map (revd_f _) fun i k hi => ?_
  unfold vR
  rw [pV_get hi, rev_snd (hP.each i hi)]; rfl
theorem rev_rErr (hP : ProgOk l p) : rErr l.reverse (pV l.length p) = rErr l p := by
  rw [rErr, rErr, if_pos (gErr_zero.2 hP), if_pos (gErr_zero.2 (rev_ok hP)), rev_rend hP]
theorem rev_hd (hP : ProgOk l p) : hd l.reverse (pV l.length p) = hd l p := by
  refine hd_same fun f => ?_
  unfold okH
  rw [show mix (pV l.length p) (vH l.reverse (pV l.length p) f) = mix p (vH l p f) from mix_map (revd_f _) fun i k hi => by
    unfold vH
    rw [pV_get hi, rev_snd (hP.each i hi)]; rfl]
end
end Go.Proofs.YtnklkobhjdkblaaDoor
