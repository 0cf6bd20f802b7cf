/- What the search finds is a proof, from each step of a circle on; a way is not without an end. In plain Lean. -/
import Derived.Test.YtacmnmcaeflflaaLaN
namespace Go.Proofs.Ytacmnmcaeflflaa
open Go.Sx

theorem back_plus (last : List Edge) (v : Int) (i : Nat) : ∀ j, back last (i + j) v = back last j (back last i v)
  | 0 => rfl
  | j + 1 => by
    have e : back last (i + (j + 1)) v = par last (back last (i + j) v) := rfl
    rw [e, back_plus last v i j]; rfl
theorem cedges_add (last : List Edge) (v : Int) (i : Nat) : ∀ j, cedges last v (i + j) = cedges last (back last i v) j ++ cedges last v i
  | 0 => rfl
  | j + 1 => by
    have e : cedges last v (i + (j + 1)) = (last.getD (back last (i + j) v).toNat default) :: cedges last v (i + j) := rfl
    rw [e, cedges_add last v i j, back_plus]; rfl
/-- a circle, turned -/
theorem cedges_turn (last : List Edge) (v : Int) {m k : Nat} (hm : back last m v = v) (hk : k ≤ m) : (cedges last v m).drop k ++ (cedges last v m).take k = cedges last (back last (m - k) v) m := by
  have e1 : cedges last v m = cedges last (back last (m - k) v) k ++ cedges last v (m - k) := by
    have := cedges_add last v (m - k) k
    rwa [show m - k + k = m by omega] at this
  have e2 : cedges last (back last (m - k) v) m = cedges last v (m - k) ++ cedges last (back last (m - k) v) k := by
    have := cedges_add last (back last (m - k) v) k (m - k)
    rw [← back_plus, show m - k + k = m by omega, hm, show k + (m - k) = m by omega] at this
    exact this
  have e3 : (cedges last (back last (m - k) v) k).length = k := cedges_len _ _ _
  rw [e2, e1, List.drop_left' e3, List.take_left' e3]
/-- a way whose steps do not raise what R says, with a sum that is not below 0 -/
theorem back_sum {s : Srch} {tau : Int → Nat} {v : Int} : ∀ m, (∀ i, i < m → R s (back s.last (i + 1) v) + (Lst s (back s.last i v)).wt ≤ R s (back s.last i v) ∧ (R s (back s.last i v) = R s (back s.last (i + 1) v) + (Lst s (back s.last i v)).wt → tau (back s.last (i + 1) v) < tau (back s.last i v))) →
    R s (back s.last m v) + wsum s.last v m ≤ R s v ∧ (R s v = R s (back s.last m v) + wsum s.last v m → tau (back s.last m v) + m ≤ tau v)
  | 0, _ => ⟨by show R s v + 0 ≤ R s v; omega, fun _ => Nat.le_refl _⟩
  | m + 1, h => by
    obtain ⟨h1, h2⟩ := back_sum m (fun i hi => h i (by omega))
    obtain ⟨h3, h4⟩ := h m (by omega)
    have e : wsum s.last v (m + 1) = wsum s.last v m + (Lst s (back s.last m v)).wt := rfl
    rw [e]
    refine ⟨by omega, fun hq => ?_⟩
    have h5 := h2 (by omega)
    have h6 := h4 (by omega)
    omega

/-- what a proof ends on -/
theorem pfold_last {b : Blank} {l : List Pt} {st : List Stp} {f0 : Int} {x : Stp} {q : Nat} {pl sum : Int} (h : pfold b l (st ++ [x]) f0 = some (q, pl, sum)) : pl = (edgeOf b l x.rule x.samp).1.to := by
  unfold pfold at h
  rw [List.foldl_append] at h
  generalize st.foldl (pst b l) (some (0, f0, 0)) = o at h
  cases o with
  | none => cases h
  | some o =>
    obtain ⟨k, p, s⟩ := o
    simp only [List.foldl_cons, List.foldl_nil, pst] at h
    split at h
    · cases h; rfl
    · cases h
/-- an open way is no proof -/
theorem open_way {b : Blank} {l : List Pt} {st : List Stp} {x : Stp} (h : (edgeOf b l x.rule x.samp).1.to ≠ frm0 b l (st ++ [x])) : provesB b l (st ++ [x]) = false := by
  unfold provesB
  cases hf : pfold b l (st ++ [x]) (frm0 b l (st ++ [x])) with
  | none => simp
  | some o =>
    obtain ⟨q, pl, sum⟩ := o
    have := pfold_last hf
    subst this
    simp [h]

/-- what is known of the steps that are found -/
structure Found (b : Blank) (l : List Pt) (st : List Stp) : Prop where
  len : st.length ≤ 16384
  right : provesB b l st = true
  turned : (st.getD 0 default).rule ≠ 1 → ∀ k, k ≤ st.length → provesB b l (st.drop k ++ st.take k) = true
  ends : (st.getD 0 default).rule = 1 → 2 ≤ st.length ∧ provesB b l (st.drop 1) = false ∧ provesB b l (st.take (st.length - 1)) = false
theorem circ_found {b : Blank} {l : List Pt} (hb : b.ok = true) (hp : PtB l) (hl : l.length ≤ 4096) (hc : (settled b l).ch ≠ -1) {m : Nat} (hm : Circ (settled b l).last (back (settled b l).last l.length (settled b l).ch) m) : Found b l (csteps (settled b l).last (back (settled b l).last l.length (settled b l).ch) m).reverse := by
  obtain ⟨p, t, rho, tau, h1, h2, h3⟩ := settled_inv hb hp
  obtain ⟨g1, g2, m', hm0, hml, hm'⟩ := h1.circle (edges_edgeList hb hp) (h2 hc) hc
  obtain ⟨c1, c2, c3⟩ := hm
  generalize hv : back (settled b l).last l.length (settled b l).ch = v at *
  have hst : (csteps (settled b l).last v m).reverse = (cedges (settled b l).last v m).map Edge.stp := cedges_rev _ _ _
  have hlen : m ≤ l.length := by
    rcases Nat.lt_or_ge m' m with h | h
    · exact absurd hm' (c3 m' hm0 h)
    · omega
  have key : ∀ j, Self b l (Lst (settled b l) (back (settled b l).last j v)) ∧ (Lst (settled b l) (back (settled b l).last j v)).to = back (settled b l).last j v ∧ back (settled b l).last (j + 1) v ≠ -1 ∧ ((Lst (settled b l) (back (settled b l).last j v)).rule = 3 ∨ (Lst (settled b l) (back (settled b l).last j v)).rule = 4 ∨ (Lst (settled b l) (back (settled b l).last j v)).rule = 5) := by
    intro j
    have e : back (settled b l).last j v = back (settled b l).last (l.length + j) (settled b l).ch := by rw [back_plus, hv]
    have e2 : back (settled b l).last (j + 1) v = back (settled b l).last (l.length + j + 1) (settled b l).ch := by rw [Nat.add_assoc l.length j 1, back_plus (settled b l).last (settled b l).ch l.length (j + 1), hv]
    rw [e, e2]
    have q1 := isEdge_self (mem_edgeList.1 (g2 (l.length + j)).1)
    have q2 := g1 (l.length + j)
    have q3 := g1 (l.length + j + 1)
    refine ⟨q1.1, ?_, by unfold In at q3; omega, q1.2⟩
    have hr0 : 0 < rho (back (settled b l).last (l.length + j) (settled b l).ch) := by
      rcases Nat.eq_zero_or_pos (rho (back (settled b l).last (l.length + j) (settled b l).ch)) with h0 | h0
      · exfalso
        have := (h1.zero _ q2 h0).1
        have e3 : back (settled b l).last (l.length + j + 1) (settled b l).ch = (Lst (settled b l) (back (settled b l).last (l.length + j) (settled b l).ch)).frm := rfl
        rw [e3, this] at q3
        unfold In e0 at q3; dsimp only at q3; omega
      · exact h0
    exact (h1.anc _ q2 hr0).2.1
  have hneg : ∀ j, back (settled b l).last m (back (settled b l).last j v) = back (settled b l).last j v → wsum (settled b l).last (back (settled b l).last j v) m < 0 := by
    intro j hj
    have := back_sum (s := settled b l) (tau := tau) (v := back (settled b l).last j v) m (fun i _ => by
      have e : back (settled b l).last i (back (settled b l).last j v) = back (settled b l).last (l.length + (j + i)) (settled b l).ch := by rw [back_plus _ _ l.length, hv, back_plus]
      have e2 : back (settled b l).last (i + 1) (back (settled b l).last j v) = back (settled b l).last (l.length + (j + i) + 1) (settled b l).ch := by rw [Nat.add_assoc, back_plus _ _ l.length, hv, Nat.add_assoc, back_plus _ _ j]
      rw [e, e2]
      exact (g2 _).2)
    rw [hj] at this
    obtain ⟨t1, t2⟩ := this
    rcases Int.lt_or_le (wsum (settled b l).last (back (settled b l).last j v) m) 0 with h | h
    · exact h
    · have := t2 (by omega); omega
  have hper : ∀ j, back (settled b l).last m (back (settled b l).last j v) = back (settled b l).last j v := by
    intro j
    rw [← back_plus, Nat.add_comm, back_plus, c2]
  have hpr : ∀ j, provesB b l ((cedges (settled b l).last (back (settled b l).last j v) m).map Edge.stp) = true := fun j =>
    circle_proves c1 (hper j) (fun i => by rw [← back_plus, ← back_plus]; exact ⟨(key (j + i)).1, (key (j + i)).2.1, (key (j + i)).2.2.1⟩) (hneg j (hper j))
  rw [hst]
  refine ⟨by rw [List.length_map, cedges_len]; omega, hpr 0, fun _ k hk => ?_, fun h => ?_⟩
  · rw [List.length_map, cedges_len] at hk
    rw [← List.map_drop, ← List.map_take, ← List.map_append, cedges_turn _ _ c2 hk]
    exact hpr _
  · exfalso
    obtain ⟨n, rfl⟩ : ∃ n, m = n + 1 := ⟨m - 1, by omega⟩
    have e : ((cedges (settled b l).last v (n + 1)).map Edge.stp).getD 0 default = (Lst (settled b l) (back (settled b l).last n v)).stp := rfl
    rw [e] at h
    have := (key n).2.2.2
    have e2 : (Lst (settled b l) (back (settled b l).last n v)).stp.rule = (Lst (settled b l) (back (settled b l).last n v)).rule := rfl
    omega
theorem e0_self {b : Blank} {l : List Pt} {i : Int} (hi : In l.length i) : Self b l (e0 b l i) := by
  unfold Self e0
  dsimp only
  rw [edgeOf_one hi]; rfl
theorem way_len {b : Blank} {l : List Pt} {v : Int} {m : Nat} (h : Way b l (settled b l) v m) : m ≤ l.length := by
  rcases Nat.lt_or_ge l.length m with hlt | hge
  · exfalso
    obtain ⟨i, j, hij, hj, e⟩ := pigeon l.length (fun i => (back (settled b l).last i v).toNat) (fun i hi => by have := h.ins i (by omega); unfold In at this; omega)
    have q1 := h.ins i (by omega)
    have q2 := h.ins j (by omega)
    unfold In at q1 q2
    have e1 : back (settled b l).last i v = back (settled b l).last j v := by omega
    have e2 : back (settled b l).last (i + (m - j)) v = back (settled b l).last (j + (m - j)) v := by rw [back_plus, back_plus, e1]
    rw [show j + (m - j) = m by omega, h.rim] at e2
    have q3 := h.ins (i + (m - j)) (by omega)
    unfold In at q3; omega
  · exact hge
theorem way_found {b : Blank} {l : List Pt} (hb : b.ok = true) (hp : PtB l) (hl : l.length ≤ 4096) {i m : Nat} (hi : i < l.length) (hlt : (settled b l).r.getD i default + (edgeOf b l 2 i).1.wt < 0) (h : Way b l (settled b l) i m) : Found b l (wsteps (settled b l).last (edgeOf b l 2 i).1 m).reverse := by
  have hin : In l.length (i : Int) := ⟨by omega, by omega⟩
  have hx2 := edgeOf_two (b := b) hin
  have hx : Self b l (edgeOf b l 2 i).1 := by unfold Self; rw [hx2]; exact hx2
  have hfr : (edgeOf b l 2 i).1.frm = i := by rw [hx2]
  have hto : (edgeOf b l 2 i).1.to = -1 := by rw [hx2]
  generalize (edgeOf b l 2 i).1 = x at *
  have hlen := way_len h
  have key : ∀ j, j < m → Self b l (Lst (settled b l) (back (settled b l).last j i)) ∧ (Lst (settled b l) (back (settled b l).last j i)).to = back (settled b l).last j i ∧ back (settled b l).last j i ≠ -1 := by
    intro j hj
    have q := h.ins j hj
    refine ⟨?_, ?_, by unfold In at q; omega⟩
    · rcases Nat.lt_or_ge (j + 1) m with h1 | h1
      · exact (isEdge_self (mem_edgeList.1 (h.mem j h1))).1
      · have e := h.lst
        rw [show m - 1 = j by omega] at e
        rw [e]; exact e0_self q
    · rcases Nat.lt_or_ge (j + 1) m with h1 | h1
      · exact h.to j h1
      · have e := h.lst
        rw [show m - 1 = j by omega] at e
        rw [e]; rfl
  have hst : (wsteps (settled b l).last x m).reverse = (cedges (settled b l).last i m).map Edge.stp ++ [x.stp] := by
    unfold wsteps
    rw [List.reverse_cons, hfr, cedges_rev]
  have hright : provesB b l ((cedges (settled b l).last i m).map Edge.stp ++ [x.stp]) = true := by
    have := way_proves (s := settled b l) (m := m) hx hto (by omega) h.pos (by rw [hfr]; exact h.rim) (fun j hj => by rw [hfr]; exact key j hj) (by
      rw [hfr]
      have h1 := h.sum
      have e : R (settled b l) (i : Int) = (settled b l).r.getD i default := rfl
      omega)
    rw [hfr] at this; exact this
  rw [hst]
  obtain ⟨n, rfl⟩ : ∃ n, m = n + 1 := ⟨m - 1, by have := h.pos; omega⟩
  have e1 : cedges (settled b l).last i (n + 1) = Lst (settled b l) (back (settled b l).last n i) :: cedges (settled b l).last i n := rfl
  have efirst : Lst (settled b l) (back (settled b l).last n i) = e0 b l (back (settled b l).last n i) := h.lst
  have hself : ∀ y : Edge, Self b l y → edgeOf b l y.stp.rule y.stp.samp = (y, true) := fun y hy => hy
  refine ⟨by rw [List.length_append, List.length_map, cedges_len]; simp only [List.length_singleton]; omega, hright, fun hne => ?_, fun _ => ⟨by rw [List.length_append, List.length_map, cedges_len]; simp only [List.length_singleton]; omega, ?_, ?_⟩⟩
  · exfalso
    rw [e1, efirst] at hne
    exact hne rfl
  · have e2 : ((cedges (settled b l).last i (n + 1)).map Edge.stp ++ [x.stp]).drop 1 = (cedges (settled b l).last i n).map Edge.stp ++ [x.stp] := rfl
    rw [e2]
    apply open_way
    rw [hself x hx, hto]
    cases n with
    | zero =>
      have e3 : frm0 b l ((cedges (settled b l).last i 0).map Edge.stp ++ [x.stp]) = (edgeOf b l x.stp.rule x.stp.samp).1.frm := rfl
      rw [e3, hself x hx, hfr]; omega
    | succ q =>
      have e3 : frm0 b l ((cedges (settled b l).last i (q + 1)).map Edge.stp ++ [x.stp]) = (edgeOf b l (Lst (settled b l) (back (settled b l).last q i)).stp.rule (Lst (settled b l) (back (settled b l).last q i)).stp.samp).1.frm := rfl
      rw [e3, hself _ (key q (by omega)).1]
      exact fun e => (key (q + 1) (by omega)).2.2 e.symm
  · have e2 : ((cedges (settled b l).last i (n + 1)).map Edge.stp ++ [x.stp]).take (((cedges (settled b l).last i (n + 1)).map Edge.stp ++ [x.stp]).length - 1) = (cedges (settled b l).last i (n + 1)).map Edge.stp := by
      rw [List.length_append, List.length_singleton, Nat.add_sub_cancel]
      exact List.take_left
    have e3 : cedges (settled b l).last i (n + 1) = cedges (settled b l).last (back (settled b l).last 1 i) n ++ [Lst (settled b l) i] := by
      have := cedges_add (settled b l).last i 1 n
      rw [Nat.add_comm 1 n] at this
      exact this
    have e4 : frm0 b l ((cedges (settled b l).last i (n + 1)).map Edge.stp) = -1 := by
      have e5 : frm0 b l ((cedges (settled b l).last i (n + 1)).map Edge.stp) = (edgeOf b l (Lst (settled b l) (back (settled b l).last n i)).stp.rule (Lst (settled b l) (back (settled b l).last n i)).stp.samp).1.frm := rfl
      rw [e5, hself _ (key n (by omega)).1]
      exact h.rim
    rw [e2]
    rw [e3, List.map_append] at e4 ⊢
    apply open_way
    have k0 := key 0 (by omega)
    have e6 : edgeOf b l (Lst (settled b l) i).stp.rule (Lst (settled b l) i).stp.samp = (Lst (settled b l) i, true) := hself _ k0.1
    have e7 : (Lst (settled b l) i).to = i := k0.2.1
    rw [e6]
    show (Lst (settled b l) i).to ≠ frm0 b l (List.map Edge.stp (cedges (settled b l).last (back (settled b l).last 1 i) n) ++ List.map Edge.stp [Lst (settled b l) i])
    rw [e4, e7]; omega
theorem search_found {b : Blank} {l : List Pt} {rad : List Int} {st : List Stp} (he : both b l = 0) (h : Search b l rad st) (h0 : 0 < st.length) : Found b l st := by
  obtain ⟨hb, hl, hpt⟩ := both_zero.1 he
  have hp := ptB_of hpt
  rcases h with ⟨h1, _, m, hm, rfl⟩ | ⟨h1, _, i, hi, hlt, m, hm, rfl⟩ | ⟨_, _, rfl, _⟩
  · exact circ_found hb hp hl h1 hm
  · exact way_found hb hp hl hi hlt hm
  · simp at h0
end Go.Proofs.Ytacmnmcaeflflaa
