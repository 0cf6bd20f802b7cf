/- Texts of this proof, one behind the other: Li2, Li3, Lib, Lid, Lie, Lif, Wc4. -/
import Derived.Test.YtncleikbggjmjaaGreatDoorMt0
import Derived.Test.YtncleikbggjmjaaGreatDoorMt23
import Derived.Test.YtncleikbggjmjaaGreatDoorMt10
import Derived.Test.YtncleikbggjmjaaGreatDoorMt25
/- Samplings, walked. -/
namespace Go.Proofs.YtncleikbggjmjaaGreatDoor.Lis
open Go.Sx Go.Proofs
def cho (n k : Int) : Int := if k < 0 then 0 else (ch n.toNat k.toNat : Nat)
theorem cho_choo {n k : Int} (h : 0 ≤ k) : cho n k = choo n k := if_neg (by omega)
theorem C_choose {g : Nat} {n k : Int} {w : World} (hp : RdL w 1 eI (some ⟨g, 0, none⟩) triL) (hn : 0 ≤ n ∧ n ≤ 50) : Con0 Tryz.prog 57 [ptr g 0, I n, I k] w (I (cho n k)) := by
  have hl := triL_len
  refine Ret_of (vs := [_, _, _]) hm none' Tryz.func57 rfl Tryz.ntmps57 rfl ?_
  dsimp only [slotsOf]
  refine Zp 1 [] rfl ?_;refine Zv rfl ?_;refine Zz ?_;refine Zp 7 [] rfl ?_;refine Zv rfl ?_;refine GT_S rfl (V_lss rfl rfl rfl) ?_;refine Zv rfl ?_;refine GT_split (d := 9) rfl (fun h1 => ?_) (fun h1 => ?_)
  · have e : cho n k = 0 := if_pos h1
    refine Zr 4 rfl ?_;refine GT_nil ?_;refine GE_cond_t rfl ?_;refine Zq [] 1 [] rfl rfl ?_;refine Zv rfl ?_;refine GT_nil ?_;refine GE_ret Tryz.func57 rfl (fun w hw => ⟨?_, hw.nil⟩)
    rw [e]
  · refine Zr 2 rfl ?_;refine GT_S rfl (V_gtr rfl rfl rfl) ?_;refine Zv rfl ?_;refine GT_nil ?_;refine GE_cond rfl (fun h2 => ?_) (fun h2 => ?_)
    · have e : cho n k = 0 := (by unfold cho; rw [if_neg (by omega), ch_gt (by omega)]; rfl)
      refine Zq [] 1 [] rfl rfl ?_;refine Zv rfl ?_;refine GT_nil ?_;refine GE_ret Tryz.func57 rfl (fun w hw => ⟨?_, hw.nil⟩)
      rw [e]
    · have e : cho n k = (ch n.toNat k.toNat : Nat) := if_neg (by omega)
      refine GE_skip ?_;refine Zq [0, 1, 2] 8 [] rfl rfl ?_;refine Zr 4 rfl ?_;refine GT_S rfl (V_indexArr rfl rfl rfl Tryz.underlying140 sz_138 (kk := n.toNat) (by omega) (by omega)) ?_;refine GT_S rfl (V_indexArr rfl rfl rfl Tryz.underlying138 sz_2 (kk := k.toNat) (by omega) (by omega)) ?_;refine ZL rfl ag_2 (RdL.atQ (k := n.toNat * 51 + k.toNat) (j := 0) hp noM (by omega) (by omega) (by rw [triL_get (by omega) (by omega)]; rfl)) ?_;refine Zv rfl ?_;refine GT_nil ?_;refine GE_ret Tryz.func57 rfl (fun w hw => ⟨?_, hw.nil⟩)
      rw [e]
theorem term_nat {n b s : Int} {k : Nat} (hb : 0 ≤ b ∧ b ≤ n) (hs : 0 ≤ s) : cho b k * cho (n - b) (s - k) = (ch b.toNat k * cz (n - b).toNat s.toNat k : Nat) := by
  have e1 : cho b k = (ch b.toNat k : Nat) := by unfold cho; rw [if_neg (by omega), Int.toNat_natCast]
  have e2 : cho (n - b) (s - k) = (cz (n - b).toNat s.toNat k : Nat) := by
    unfold cho cz
    by_cases h : k ≤ s.toNat
    · rw [if_neg (by omega), if_pos h, show (s - k).toNat = s.toNat - k by omega]
    · rw [if_pos (by omega), if_neg h]; rfl
  rw [e1, e2]; simp
theorem wy_bd {n b s : Int} (hb : 0 ≤ b ∧ b ≤ n) (hn : n ≤ 50) (k : Nat) : (wy b.toNat (n - b).toNat s.toNat k : Int) ≤ 1125899906842624 := by
  have h1 := wy_all b.toNat (n - b).toNat s.toNat k
  rw [show b.toNat + (n - b).toNat = n.toNat by omega] at h1
  have h2 := ch_bd (n := n.toNat) (k := s.toNat) (by omega)
  omega
theorem C_ways {g : Nat} {n s b c : Int} {w : World} (hp : RdL w 1 eI (some ⟨g, 0, none⟩) triL) (hn : 0 ≤ n ∧ n ≤ 50) (hb : 0 ≤ b ∧ b ≤ n) (hs : 0 ≤ s ∧ s ≤ n) (hc : -1 ≤ c ∧ c ≤ n) :
    Con0 Tryz.prog 58 [.agg #[ptr g 0, I n, I s], I b, I c] w (I (ways n b s c)) := by
  refine Ret_of (vs := [_, _, _]) hm none' Tryz.func58 rfl Tryz.ntmps58 rfl ?_
  dsimp only [slotsOf]
  refine Zp 2 [0] rfl ?_;refine Zx [_, _, _] rfl rfl fun b3 => ?_;refine Zv rfl ?_;refine Zz ?_;refine Zp 3 [] rfl ?_;refine Zv rfl ?_;refine Za rfl (by omega) ?_;refine Zv rfl ?_;refine GT_nil ?_;refine GE_block ?_;refine GE_to (GE_loop (ι := Nat) (fun k => (c + 1).toNat - k) (fun k => [(1, I b), (3, ptr b3 0), (6, I (wy b.toNat (n - b).toNat s.toNat k)), (9, I (c + 1)), (10, I k)]) (fun k => [(b3, blk [ptr g 0, I n, I s] 142)]) (fun k => (k : Int) ≤ c + 1) ?_ 0 ?_) ⟨rfl, rfl, rfl, rfl, rfl, trivial⟩ (HS.cons rfl HS.nil)
  · intro k hk ih
    refine Zp 1 [] rfl ?_;refine GT_S rfl (V_lss rfl rfl rfl) ?_;refine Zz ?_;refine GE_cond rfl (fun h1 => ?_) (fun h1 => ?_)
    · obtain ⟨tm, htm, hwy⟩ : ∃ tm : Nat, cho b k * cho (n - b) (s - k) = (tm : Int) ∧ (wy b.toNat (n - b).toNat s.toNat (k + 1) : Int) = wy b.toNat (n - b).toNat s.toNat k + (tm : Int) := ⟨_, term_nat hb hs.1, by rw [wy]; push_cast; rfl⟩
      have hbd := wy_bd (s := s) hb hn.2 (k + 1)
      refine GE_skip ?_;refine GE_seq ?_;refine GE_block ?_;refine Zp 2 [] rfl ?_;refine Zr 2 rfl ?_;refine GT_nil ?_;refine GE_drawn (.st 0 (.st 1 (.st 2 (.st 3 (.st 4 (.st 6 (.st 7 (.st 8 (.st 9 (.st 10 (.st 11 (.st 12 (.st 13 (.st 14 (.st 15 (.ld 5 [0, 6, 7, 8, 9, 10, 11, 12, 13, 14, 15] (.ld 16 [0] (.st 17 (.st 18 (.ld 19 [] .nil)))))))))))))))))))) [5, 16, 19] (by decide +kernel) ?_;refine Zv rfl ?_;refine Zg rfl fo_142_0 rfl ag_106 rfl ?_;refine Zr 2 rfl ?_;refine Zg rfl fo_142_0 rfl ag_106 rfl ?_;refine Zg rfl fo_142_1 rfl ag_3 rfl ?_;refine Zv rfl ?_;refine Za rfl (by omega) ?_;refine Zg rfl fo_142_2 rfl ag_3 rfl ?_;refine Zv rfl ?_;refine Za rfl (by omega) ?_;refine Zc rfl rn_57 (fun w hw => C_choose (hp.sh hw) (by omega)) (Rv rfl rfl (Rf rfl fo_142_0 rfl (Rl rfl ag_106 rfl rfl (Rf rfl fo_142_1 rfl (Rl rfl ag_3 rfl rfl (Rv rfl rfl (GR_S rfl rfl (V_sub rfl rfl rfl (wrap_i64 (by omega))) (Rf rfl fo_142_2 rfl (Rl rfl ag_3 rfl rfl (Rv rfl rfl (GR_S rfl rfl (V_sub rfl rfl rfl (wrap_i64 (by omega))) GR_nil))))))))))) ?_;refine Zc rfl rn_57 (fun w hw => C_choose (hp.sh hw) (by omega)) (Rv rfl rfl GR_nil) ?_;refine GT_S rfl (V_mul rfl rfl rfl ((congrArg IntKind.i64.wrap htm).trans (wrap_i64 (by omega)))) ?_;refine Za rfl (by omega) ?_;refine Zw rfl ?_;refine GT_nil ?_;refine GE_inBlock ?_;refine Zs [1, 3, 6, 9, 10] rfl ?_;refine ZP 2 [1] rfl ?_;refine Za rfl (by omega) ?_;refine Zw rfl ?_;refine GT_nil ?_
      rw [← hwy]; exact GE_to (ih (k + 1) (by omega) (by omega)) ⟨rfl, rfl, rfl, rfl, rfl, trivial⟩ (HS.cons rfl HS.nil)
    · obtain rfl : k = (c + 1).toNat := (by omega)
      refine GE_exit rfl ?_;refine Zq [6] 2 [1] rfl rfl ?_;refine Zv rfl ?_;refine Zw rfl ?_;refine GT_nil ?_;refine GE_ret Tryz.func58 rfl (fun w hw => ⟨?_, hw.nil⟩)
      rfl
  · omega
def Dmd.cells (d : Dmd) : List Value := [I d.n, I d.g, I d.b, I d.r, I d.a]
abbrev Dmd.val (d : Dmd) : Value := .agg d.cells.toArray
def Dmd.okB (d : Dmd) : Bool := betw d.n 0 50 && decide (0 ≤ d.g) && decide (d.g < d.b) && decide (d.b ≤ d.n) && betw d.r 0 1000 && betw d.a 0 1000
def Dmd.chk (d : Dmd) : Int := if d.okB then 0 else 3
theorem Dmd.okB_iff {d : Dmd} : d.okB = true ↔ d.Ok := by
  unfold Dmd.okB
  simp only [Bool.and_eq_true, decide_eq_true_eq, betw_iff]
  constructor
  · rintro ⟨⟨⟨⟨⟨h1, h2⟩, h3⟩, h4⟩, h5⟩, h6⟩; exact ⟨h1, h2, ⟨h3, h4⟩, h5, h6⟩
  · rintro ⟨h1, h2, h3, h4, h5⟩; exact ⟨⟨⟨⟨⟨h1, h2⟩, h3.1⟩, h3.2⟩, h4⟩, h5⟩
theorem Dmd.chk_zero {d : Dmd} : d.chk = 0 ↔ d.Ok := by
  rw [← Dmd.okB_iff]; unfold Dmd.chk; cases d.okB <;> simp
theorem C_demand_check {d : Dmd} {w : World} : Con0 Tryz.prog 34 [d.val] w (I d.chk) := by
  have hd : ∀ x : Int, ((x = 0 ∧ d.Ok) ∨ (x = 3 ∧ ¬ d.Ok)) → I x = I d.chk := fun x hx => congrArg I (by
    rcases hx with ⟨rfl, h⟩ | ⟨rfl, h⟩
    · exact (Dmd.chk_zero.2 h).symm
    · unfold Dmd.chk; rw [if_neg (fun q => h (Dmd.okB_iff.1 q))])
  refine Ret_of (vs := [_]) hm none' Tryz.func34 rfl Tryz.ntmps34 rfl ?_
  dsimp only [slotsOf]
  refine Zp 2 [0] rfl ?_;refine Zx [_, _, _, _, _] rfl rfl fun b1 => ?_;refine Zv rfl ?_;refine Zz ?_;refine Zp 35 [2, 26, 32] rfl ?_;refine Zg rfl fo_104_0 rfl ag_3 rfl ?_;refine Zc rfl rn_55 (fun w hw => C_betw) GR_nil ?_;refine GT_S rfl (V_notB rfl rfl) ?_;refine Zv rfl ?_;refine GT_splitNotB (d := 7) rfl (fun h1 => ?_) (fun h1 => ?_)
  · refine Zr 21 rfl ?_;refine GT_skip_ld rfl rfl rfl rfl rfl (by decide) rfl rfl rfl GR_nil ?_;refine Zr 5 rfl ?_;refine GT_skip_ld rfl rfl rfl rfl rfl (by decide) rfl rfl rfl GR_nil ?_;refine Zr 2 rfl ?_;refine GT_nil ?_;refine GE_cond_t rfl ?_;refine Zq [] 1 [] rfl rfl ?_;refine Zv rfl ?_;refine GT_nil ?_;refine GE_ret Tryz.func34 rfl (fun w hw => ⟨?_, hw.nil⟩)
    first | exact hd _ (.inl ⟨rfl, ⟨h1, by omega, by omega, h5, h6⟩⟩) | (refine hd _ (.inr ⟨rfl, fun ho => ?_⟩); have e := Dmd.okB_iff.2 ho; unfold Dmd.okB at e; simp only [Bool.and_eq_true, decide_eq_true_eq] at e; first | (simp_all; done) | omega)
  · rw [betw_iff] at h1
    refine Zg rfl fo_104_1 rfl ag_3 rfl ?_;refine GT_S rfl (V_lss rfl rfl rfl) ?_;refine Zr 2 rfl ?_;refine GT_split (d := 12) rfl (fun h2 => ?_) (fun h2 => ?_)
    · refine Zr 16 rfl ?_;refine GT_skip_ld rfl rfl rfl rfl rfl (by decide) rfl rfl rfl GR_nil ?_;refine Zr 5 rfl ?_;refine GT_skip_ld rfl rfl rfl rfl rfl (by decide) rfl rfl rfl GR_nil ?_;refine Zr 2 rfl ?_;refine GT_nil ?_;refine GE_cond_t rfl ?_;refine Zq [] 1 [] rfl rfl ?_;refine Zv rfl ?_;refine GT_nil ?_;refine GE_ret Tryz.func34 rfl (fun w hw => ⟨?_, hw.nil⟩)
      first | exact hd _ (.inl ⟨rfl, ⟨h1, by omega, by omega, h5, h6⟩⟩) | (refine hd _ (.inr ⟨rfl, fun ho => ?_⟩); have e := Dmd.okB_iff.2 ho; unfold Dmd.okB at e; simp only [Bool.and_eq_true, decide_eq_true_eq] at e; first | (simp_all; done) | omega)
    · refine Zg rfl fo_104_2 rfl ag_3 rfl ?_;refine Zg rfl fo_104_1 rfl ag_3 rfl ?_;refine GT_S rfl (V_leq rfl rfl rfl) ?_;refine Zr 2 rfl ?_;refine GT_split (d := 19) rfl (fun h3 => ?_) (fun h3 => ?_)
      · refine Zr 9 rfl ?_;refine GT_skip_ld rfl rfl rfl rfl rfl (by decide) rfl rfl rfl GR_nil ?_;refine Zr 5 rfl ?_;refine GT_skip_ld rfl rfl rfl rfl rfl (by decide) rfl rfl rfl GR_nil ?_;refine Zr 2 rfl ?_;refine GT_nil ?_;refine GE_cond_t rfl ?_;refine Zq [] 1 [] rfl rfl ?_;refine Zv rfl ?_;refine GT_nil ?_;refine GE_ret Tryz.func34 rfl (fun w hw => ⟨?_, hw.nil⟩)
        first | exact hd _ (.inl ⟨rfl, ⟨h1, by omega, by omega, h5, h6⟩⟩) | (refine hd _ (.inr ⟨rfl, fun ho => ?_⟩); have e := Dmd.okB_iff.2 ho; unfold Dmd.okB at e; simp only [Bool.and_eq_true, decide_eq_true_eq] at e; first | (simp_all; done) | omega)
      · refine Zg rfl fo_104_2 rfl ag_3 rfl ?_;refine Zg rfl fo_104_0 rfl ag_3 rfl ?_;refine GT_S rfl (V_gtr rfl rfl rfl) ?_;refine Zr 2 rfl ?_;refine GT_split (d := 26) rfl (fun h4 => ?_) (fun h4 => ?_)
        · refine Zr 2 rfl ?_;refine GT_skip_ld rfl rfl rfl rfl rfl (by decide) rfl rfl rfl GR_nil ?_;refine Zr 5 rfl ?_;refine GT_skip_ld rfl rfl rfl rfl rfl (by decide) rfl rfl rfl GR_nil ?_;refine Zr 2 rfl ?_;refine GT_nil ?_;refine GE_cond_t rfl ?_;refine Zq [] 1 [] rfl rfl ?_;refine Zv rfl ?_;refine GT_nil ?_;refine GE_ret Tryz.func34 rfl (fun w hw => ⟨?_, hw.nil⟩)
          first | exact hd _ (.inl ⟨rfl, ⟨h1, by omega, by omega, h5, h6⟩⟩) | (refine hd _ (.inr ⟨rfl, fun ho => ?_⟩); have e := Dmd.okB_iff.2 ho; unfold Dmd.okB at e; simp only [Bool.and_eq_true, decide_eq_true_eq] at e; first | (simp_all; done) | omega)
        · refine Zg rfl fo_104_3 rfl ag_2 rfl ?_;refine Zc rfl rn_56 (fun w hw => C_betw64) GR_nil ?_;refine GT_S rfl (V_notB rfl rfl) ?_;refine Zr 2 rfl ?_;refine GT_splitNotB (d := 32) rfl (fun h5 => ?_) (fun h5 => ?_)
          · refine Zr 2 rfl ?_;refine GT_skip_ld rfl rfl rfl rfl rfl (by decide) rfl rfl rfl GR_nil ?_;refine Zr 2 rfl ?_;refine GT_nil ?_;refine GE_cond_t rfl ?_;refine Zq [] 1 [] rfl rfl ?_;refine Zv rfl ?_;refine GT_nil ?_;refine GE_ret Tryz.func34 rfl (fun w hw => ⟨?_, hw.nil⟩)
            first | exact hd _ (.inl ⟨rfl, ⟨h1, by omega, by omega, h5, h6⟩⟩) | (refine hd _ (.inr ⟨rfl, fun ho => ?_⟩); have e := Dmd.okB_iff.2 ho; unfold Dmd.okB at e; simp only [Bool.and_eq_true, decide_eq_true_eq] at e; first | (simp_all; done) | omega)
          · rw [betw_iff] at h5
            refine Zg rfl fo_104_4 rfl ag_2 rfl ?_;refine Zc rfl rn_56 (fun w hw => C_betw64) GR_nil ?_;refine GT_S rfl (V_notB rfl rfl) ?_;refine Zv rfl ?_;refine GT_nil ?_;refine GE_condNotB rfl (fun h6 => ?_) (fun h6 => ?_)
            · refine Zq [] 1 [] rfl rfl ?_;refine Zv rfl ?_;refine GT_nil ?_;refine GE_ret Tryz.func34 rfl (fun w hw => ⟨?_, hw.nil⟩)
              first | exact hd _ (.inl ⟨rfl, ⟨h1, by omega, by omega, h5, h6⟩⟩) | (refine hd _ (.inr ⟨rfl, fun ho => ?_⟩); have e := Dmd.okB_iff.2 ho; unfold Dmd.okB at e; simp only [Bool.and_eq_true, decide_eq_true_eq] at e; first | (simp_all; done) | omega)
            · rw [betw_iff] at h6
              refine GE_skip ?_;refine Zq [] 1 [] rfl rfl ?_;refine Zv rfl ?_;refine GT_nil ?_;refine GE_ret Tryz.func34 rfl (fun w hw => ⟨?_, hw.nil⟩)
              first | exact hd _ (.inl ⟨rfl, ⟨h1, by omega, by omega, h5, h6⟩⟩) | (refine hd _ (.inr ⟨rfl, fun ho => ?_⟩); have e := Dmd.okB_iff.2 ho; unfold Dmd.okB at e; simp only [Bool.and_eq_true, decide_eq_true_eq] at e; first | (simp_all; done) | omega)
theorem C_demand_holds {g : Nat} {d : Dmd} {s c : Int} {w : World} (hp : RdL w 1 eI (some ⟨g, 0, none⟩) triL) (hd : d.Ok) (hs : 0 ≤ s ∧ s ≤ d.n) (hc : -1 ≤ c ∧ c ≤ d.n) :
    Con0 Tryz.prog 36 [d.val, ptr g 0, I s, I c] w (.bool (d.hold s c)) := by
  obtain ⟨hn, hg, hb, hr, ha⟩ := hd
  have hall := choo_bd (n := d.n) (s := s) hn.2
  have hw1 := ways_bd (n := d.n) (b := d.g) (s := s) (c := c) (by omega)
  have hw2 := ways_bd (n := d.n) (b := d.b) (s := s) (c := c) (by omega)
  have m1 : 0 ≤ d.r * choo d.n s ∧ d.r * choo d.n s ≤ 1000 * 1125899906842624 := ⟨Int.mul_nonneg hr.1 hall.1, Int.mul_le_mul hr.2 hall.2 hall.1 (by decide)⟩
  have m2 : 0 ≤ d.a * choo d.n s ∧ d.a * choo d.n s ≤ 1000 * 1125899906842624 := ⟨Int.mul_nonneg ha.1 hall.1, Int.mul_le_mul ha.2 hall.2 hall.1 (by decide)⟩
  have hfin : ∀ q : Bool, ((1000 * (choo d.n s - ways d.n d.g s c) ≤ d.r * choo d.n s ∧ 1000 * ways d.n d.b s c ≤ d.a * choo d.n s) ↔ q = true) → Value.bool q = Value.bool (d.hold s c) := fun q hq => congrArg Value.bool (by
    rw [Bool.eq_iff_iff, ← hq]; unfold Dmd.hold; simp)
  refine Ret_of (vs := [_, _, _, _]) hm none' Tryz.func36 rfl Tryz.ntmps36 rfl ?_
  dsimp only [slotsOf]
  refine Zp 2 [0] rfl ?_;refine Zx [_, _, _, _, _] rfl rfl fun b4 => ?_;refine Zv rfl ?_;refine GT_nil ?_;refine GE_cut (ι := Nat) (fun b9 => [(3, I c), (4, ptr b4 0), (9, ptr b9 0), (10, I (choo d.n s))]) (fun b9 => [(b9, blk [ptr g 0, I d.n, I s] 142), (b4, blk d.cells 104)]) (fun b9 => True) ?_ (fun hk9 => ?_)
  · intro b9 _
    refine GE_seq ?_;refine GE_drawn (.st 0 (.st 1 (.st 2 (.st 3 (.st 4 (.st 8 (.st 9 (.st 10 (.st 11 (.ld 5 [0, 8, 9, 10, 11] (.st 6 (.st 7 (.st 12 (.st 13 (.st 14 (.st 15 (.st 16 (.st 17 (.st 20 (.st 21 (.st 22 (.st 23 (.ld 18 [20, 21, 22, 23] (.st 19 (.st 24 (.st 25 (.st 26 .nil))))))))))))))))))))))))))) [5, 18] (by decide +kernel) ?_;refine Zv rfl ?_;refine ZN [_, _, _] rfl ag_142 sz_142 rfl rfl ?_;refine Zg rfl fo_104_1 rfl ag_3 rfl ?_;refine Zv rfl ?_;refine Zg rfl fo_104_3 rfl ag_2 rfl ?_;refine Zv rfl ?_;refine Za rfl (by omega) ?_;refine Zc rfl rn_58 (fun w hw => C_ways (hp.sh hw) hn (by omega) hs hc) (Rv rfl rfl (Rf rfl fo_104_3 rfl (Rl rfl ag_2 rfl rfl (Rv rfl rfl (GR_S rfl rfl (V_mul rfl rfl rfl (wrap_i64 (by omega))) GR_nil))))) ?_;refine Za rfl (by omega) ?_;refine Za rfl (by omega) ?_;refine GT_S rfl (V_leq rfl rfl rfl) ?_;refine Zv rfl ?_;refine GT_split (d := 34) rfl (fun h1 => ?_) (fun h1 => ?_)
    · refine ZN [_, _, _] rfl ag_142 sz_142 rfl rfl ?_;refine Zg rfl fo_104_2 rfl ag_3 rfl ?_;refine Zv rfl ?_;refine Zg rfl fo_104_4 rfl ag_2 rfl ?_;refine Zv rfl ?_;refine Za rfl (by omega) ?_;refine Zc rfl rn_58 (fun w hw => C_ways (hp.sh hw) hn (by omega) hs hc) (Rf rfl fo_104_4 rfl (Rl rfl ag_2 rfl rfl (Rv rfl rfl (GR_S rfl rfl (V_mul rfl rfl rfl (wrap_i64 (by omega))) GR_nil)))) ?_;refine Za rfl (by omega) ?_;refine GT_S rfl (V_leq rfl rfl rfl) ?_;refine Zr 2 rfl ?_;refine GT_nil ?_;refine GE_ret Tryz.func36 rfl (fun w hw => ⟨?_, hw.nil⟩)
      refine hfin _ ?_;(first | (simp; done) | (simp; omega))
    · refine Zr 8 rfl ?_;refine GT_skip_ld rfl rfl rfl rfl rfl (by decide) rfl rfl rfl (Rv rfl rfl (Rv rfl rfl (Rv rfl rfl (Rv rfl rfl GR_nil)))) ?_;refine Zr 4 rfl ?_;refine GT_nil ?_;refine GE_ret Tryz.func36 rfl (fun w hw => ⟨?_, hw.nil⟩)
      refine hfin _ ?_;(first | (simp; done) | (simp; omega))
  · refine GE_drawn (.st 0 (.st 1 (.st 2 (.st 3 (.st 4 (.st 5 (.st 6 (.st 7 (.st 8 (.br (.ld 9 [0, 1, 2, 3, 4] (.ld 10 [0, 1, 2, 3, 4, 5, 6, 7, 8] (.ld 11 [] (.st 12 .nil)))) (.ld 10 [0, 1, 2, 3, 4, 5, 6, 7, 8] (.ld 9 [0, 1, 2, 3, 4] (.ld 11 [] (.st 12 .nil)))))))))))))) [9, 10, 11] (by decide +kernel) ?_;refine Zv rfl ?_;refine Zg rfl fo_104_0 rfl ag_3 rfl ?_;refine Zv rfl ?_;refine GT_S rfl (V_build (vs := [_, _, _]) rfl rfl zc_142 pl_142 sa_142 rfl) ?_;refine Zv rfl ?_;refine Zg rfl fo_104_0 rfl ag_3 rfl ?_;refine Zv rfl ?_;refine GT_br ?_ ?_
    · refine Zc rfl rn_57 (fun w hw => C_choose (hp.sh hw) hn) (Rv rfl rfl (Rf rfl fo_104_0 rfl (Rl rfl ag_3 rfl rfl (Rv rfl rfl (GR_S rfl rfl (V_build (vs := [_, _, _]) rfl rfl zc_142 pl_142 sa_142 rfl) GR_nil))))) ?_
      rw [cho_choo hs.1]
      refine GT_alloc rfl rfl rfl rfl rfl zc_142 (fun _ => Rv rfl rfl (Rf rfl fo_104_0 rfl (Rl rfl ag_3 rfl rfl (Rv rfl rfl (GR_S rfl rfl (V_build (vs := [_, _, _]) rfl rfl zc_142 pl_142 sa_142 rfl) (Rv rfl rfl (Rf rfl fo_104_0 rfl (Rl rfl ag_3 rfl rfl (Rv rfl rfl GR_nil))))))))) (fun b9 => ?_);refine ZS [_, _, _] [_, _, _] rfl rfl sz_142 rfl rfl rfl ?_;refine Zv rfl ?_;refine GT_nil ?_
      exact GE_to (hk9 b9 trivial) ⟨rfl, rfl, rfl, rfl, trivial⟩ (HS.cons rfl (HS.cons rfl HS.nil))
    · refine GT_alloc rfl rfl rfl rfl rfl zc_142 (fun _ => Rv rfl rfl (Rf rfl fo_104_0 rfl (Rl rfl ag_3 rfl rfl (Rv rfl rfl (GR_S rfl rfl (V_build (vs := [_, _, _]) rfl rfl zc_142 pl_142 sa_142 rfl) (Rv rfl rfl (Rf rfl fo_104_0 rfl (Rl rfl ag_3 rfl rfl (Rv rfl rfl GR_nil))))))))) (fun b9 => ?_);refine Zc rfl rn_57 (fun w hw => C_choose (hp.sh hw) hn) (Rv rfl rfl (Rf rfl fo_104_0 rfl (Rl rfl ag_3 rfl rfl (Rv rfl rfl (GR_S rfl rfl (V_build (vs := [_, _, _]) rfl rfl zc_142 pl_142 sa_142 rfl) GR_nil))))) ?_
      rw [cho_choo hs.1]
      refine ZS [_, _, _] [_, _, _] rfl rfl sz_142 rfl rfl rfl ?_;refine Zv rfl ?_;refine GT_nil ?_
      exact GE_to (hk9 b9 trivial) ⟨rfl, rfl, rfl, rfl, trivial⟩ (HS.cons rfl (HS.cons rfl HS.nil))
theorem C_listen_Sampling {d : Dmd} {w : World} : Con Tryz.prog 19 [I d.n, I d.g, I d.b, I d.r, I d.a] w (fun y : Int × Int => (d.chk = 0 → Samp d y.1 y.2) ∧ (d.chk ≠ 0 → y = (0, 0))) (fun y => .tuple #[I y.1, I y.2, I d.chk]) (fun _ => []) := by
  refine Ret_of (vs := [_, _, _, _, _]) hm none' Tryz.func19 rfl Tryz.ntmps19 rfl ?_
  dsimp only [slotsOf]
  refine Zp 3 [] rfl ?_;refine Zr 3 rfl ?_;refine GT_nil ?_;refine GE_scope ?_;refine Zp 8 [6, 7] rfl ?_;refine Zr 5 rfl ?_;refine GT_S rfl (V_build (vs := [_, _, _, _, _]) rfl rfl zc_104 pl_104 sa_104 rfl) ?_;refine Zb rfl zc_104 fun b13 => ?_;refine ZS [_, _, _, _, _] [_, _, _, _, _] rfl rfl sz_104 rfl rfl rfl ?_;refine Zz ?_;refine Zq [0, 13] 3 [1] rfl rfl ?_;refine ZN [_, _, _, _, _] rfl ag_104 sz_104 rfl rfl ?_;refine Zc rfl rn_34 (fun w hw => C_demand_check (d := d)) GR_nil ?_;refine Zv rfl ?_;refine GT_nil ?_;refine Zp 2 [] rfl ?_;refine Zv rfl ?_;refine GT_S rfl (V_neq rfl rfl rfl) ?_;refine GT_nil ?_;refine GE_condNot rfl (fun h1 => ?_) (fun h1 => ?_)
  · refine Zq [14] 4 [] rfl rfl ?_;refine Zr 4 rfl ?_;refine GT_nil ?_;refine GE_ret Tryz.func19 ⟨_, _, _, rfl, rfl, rfl, rfl⟩ (fun w hw => ?_)
    exact ⟨(0, 0), ⟨fun q => absurd q h1, fun _ => rfl⟩, rfl, hw.nil⟩
  · have hd := Dmd.chk_zero.1 h1; obtain ⟨hn, hg, hb, hr, ha⟩ := id hd
    refine GE_skip ?_;refine Zq [0, 13] 2 [0] rfl rfl ?_;refine ZC rfl rn_35 (fun w hw => C_pascal) (fun _ _ => GR_nil) (fun g _ => ?_);refine Zv rfl ?_;refine GT_nil ?_;refine Zp 2 [] rfl ?_;refine Zr 2 rfl ?_;refine Zz ?_;refine GE_label ?_;refine GE_seq ?_;refine Zp 3 [] rfl ?_;refine Zv rfl ?_;refine Za rfl (by omega) ?_;refine Zv rfl ?_;refine GT_nil ?_;refine GE_block ?_;refine GE_to (GE_loop (ι := Nat) (fun k => (d.n + 1).toNat - k) (fun k => [(0, I d.n), (13, ptr b13 0), (15, ptr g 0), (31, I (d.n + 1)), (32, I k)]) (fun k => [(g, blk (triL.flatMap eI) 140), (b13, blk d.cells 104)]) (fun k => (k : Int) ≤ d.n + 1 ∧ ∀ s' c', 0 ≤ s' → s' < (k : Int) → 0 ≤ c' → c' ≤ d.n → d.hold s' c' = false) ?_ 0 ?_) ⟨rfl, rfl, rfl, rfl, rfl, trivial⟩ (HS.cons rfl (HS.cons rfl HS.nil))
    · intro k ⟨hk, hno⟩ ih
      refine Zp 1 [] rfl ?_;refine GT_S rfl (V_lss rfl rfl rfl) ?_;refine Zz ?_;refine GE_cond rfl (fun h2 => ?_) (fun h2 => ?_)
      · refine GE_skip ?_;refine GE_seq ?_;refine GE_block ?_;refine Zp 2 [] rfl ?_;refine Zr 2 rfl ?_;refine GT_nil ?_;refine Zp 3 [] rfl ?_;refine Zv rfl ?_;refine Za rfl (by omega) ?_;refine Zv rfl ?_;refine GT_nil ?_;refine GE_block ?_;refine GE_to (GE_loop (ι := Nat) (fun j => (d.n + 1).toNat - j) (fun j => [(0, I d.n), (13, ptr b13 0), (15, ptr g 0), (16, I k), (31, I (d.n + 1)), (32, I k), (36, I (d.n + 1)), (37, I j)]) (fun j => [(g, blk (triL.flatMap eI) 140), (b13, blk d.cells 104)]) (fun j => (j : Int) ≤ d.n + 1 ∧ ∀ c', 0 ≤ c' → c' < (j : Int) → d.hold k c' = false) ?_ 0 ?_) ⟨rfl, rfl, rfl, rfl, rfl, rfl, rfl, rfl, trivial⟩ (HS.cons rfl (HS.cons rfl HS.nil))
        · intro j ⟨hj, hnc⟩ ih2
          refine Zp 1 [] rfl ?_;refine GT_S rfl (V_lss rfl rfl rfl) ?_;refine Zz ?_;refine GE_cond rfl (fun h3 => ?_) (fun h3 => ?_)
          · refine GE_skip ?_;refine GE_seq ?_;refine GE_block ?_;refine Zp 2 [] rfl ?_;refine Zr 2 rfl ?_;refine GT_nil ?_;refine Zp 5 [4] rfl ?_;refine ZN [_, _, _, _, _] rfl ag_104 sz_104 rfl rfl ?_;refine Zr 3 rfl ?_;refine Zc rfl rn_36 (fun w hw => C_demand_holds (d := d) (RdL.own' hw eI_len) hd (by omega) (by omega)) GR_nil ?_;refine GT_nil ?_;refine GE_condB rfl (fun h4 => ?_) (fun h4 => ?_)
            · refine GE_exit rfl ?_;refine Zq [16, 17] 5 [] rfl rfl ?_;refine Zr 5 rfl ?_;refine GT_nil ?_;refine GE_ret Tryz.func19 ⟨_, _, _, rfl, rfl, rfl, rfl⟩ (fun w hw => ?_)
              exact ⟨((k : Int), (j : Int)), ⟨fun _ => ⟨by dsimp only; omega, by dsimp only; omega, h4, hnc, hno⟩, fun q => absurd h1 q⟩, by rw [h1], hw.nil⟩
            · refine GE_skip ?_;refine GE_inBlock ?_;refine Zs [0, 13, 15, 16, 17, 31, 32, 36, 37] rfl ?_;refine ZP 2 [1] rfl ?_;refine Za rfl (by omega) ?_;refine Zw rfl ?_;refine GT_nil ?_
              exact GE_to (ih2 (j + 1) ⟨by omega, fun c' a1 a2 => by rcases Int.lt_or_le c' j with q | q; exact hnc c' a1 q; obtain rfl : c' = (j : Int) := (by omega); exact h4⟩ (by omega)) ⟨rfl, rfl, rfl, rfl, rfl, rfl, rfl, rfl, trivial⟩ (HS.cons rfl (HS.cons rfl HS.nil))
          · refine GE_exit rfl ?_;refine GE_inBlock ?_;refine ZP 2 [1] rfl ?_;refine Za rfl (by omega) ?_;refine Zw rfl ?_;refine GT_nil ?_
            exact GE_to (ih (k + 1) ⟨by omega, fun s' c' a1 a2 a3 a4 => by rcases Int.lt_or_le s' k with q | q; exact hno s' c' a1 q a3 a4; obtain rfl : s' = (k : Int) := (by omega); exact hnc c' a3 (by omega)⟩ (by omega)) ⟨rfl, rfl, rfl, rfl, rfl, trivial⟩ (HS.cons rfl (HS.cons rfl HS.nil))
        · exact ⟨by omega, fun c' h1 h2 => by omega⟩
      · exact absurd (hold_whole hd) (by rw [hno d.n d.g (by omega) (by omega) hg (by omega)]; decide)
    · exact ⟨by omega, fun s' c' h1 h2 => by omega⟩
end Go.Proofs.YtncleikbggjmjaaGreatDoor.Lis
/- The reference's samplings, walked. -/
namespace Go.Proofs.YtncleikbggjmjaaGreatDoor.Lis
open Go.Sx Go.Proofs
end Go.Proofs.YtncleikbggjmjaaGreatDoor.Lis
/- The chapter's examples, and the statements about samplings: walked. -/
namespace Go.Proofs.YtncleikbggjmjaaGreatDoor.Lis
open Go.Sx Go.Proofs
instance (x : Plt) : Decidable (Plt.wf x) := by unfold Plt.wf I64; infer_instance
instance (x : Dsc) : Decidable (Dsc.wf x) := by unfold Dsc.wf I64; infer_instance
section
variable {w : World}
end
end Go.Proofs.YtncleikbggjmjaaGreatDoor.Lis
/- The laws' own functions, and the discs that have a cause: walked. -/
namespace Go.Proofs.YtncleikbggjmjaaGreatDoor.Lis
open Go.Sx Go.Proofs
def pickTo (d : List Dsc) (f : Nat → Bool) (k : Nat) : List Int := ((List.range k).filter f).map fun i => (d.getD i default).ser
theorem pickTo_succ {d : List Dsc} {f : Nat → Bool} {k : Nat} : pickTo d f (k + 1) = pickTo d f k ++ if f k then [(d.getD k default).ser] else [] := by
  unfold pickTo
  rw [List.range_succ, List.filter_append, List.map_append, List.filter_cons, List.filter_nil]
  cases f k <;> simp
theorem pickTo_le {d : List Dsc} {f : Nat → Bool} {k : Nat} : (pickTo d f k).length ≤ k := by
  unfold pickTo
  rw [List.length_map]
  have := List.length_filter_le f (List.range k)
  rwa [List.length_range] at this
section
variable {p : List Plt} {d : List Dsc} {h : List Hrg} {A A2 A3 A5 : Option Addr} {c c2 c3 c5 : Nat} {side : Int} {w : World}
theorem C_Of {x : Dsc} (h1 : -9223372036854775807 ≤ x.a ∧ x.a ≤ 9223372036854775807) (h2 : -9223372036854775807 ≤ x.b ∧ x.b ≤ 9223372036854775807) : Con0 Tryz.prog 16 [.agg (eDsc x).toArray, I side] w (I (ofS x side)) := by
  refine Ret_of (vs := [_, _]) hm none' Tryz.func16 rfl Tryz.ntmps16 rfl ?_
  dsimp only [slotsOf]
  refine Zp 2 [0] rfl ?_;refine Zx [_, _, _, _, _, _, _] rfl rfl fun b2 => ?_;refine Zv rfl ?_;refine Zz ?_;refine Zp 2 [] rfl ?_;refine Zv rfl ?_;refine GT_S rfl (V_eql rfl rfl rfl) ?_;refine GT_nil ?_;refine GE_cond rfl (fun h3 => ?_) (fun h3 => ?_)
  · have e : ofS x side = x.a - 1 := (by unfold ofS; rw [if_pos h3])
    refine Zq [2] 4 [] rfl rfl ?_;refine Zg rfl fo_47_1 rfl ag_2 rfl ?_;refine Za rfl (by omega) ?_;refine Zv rfl ?_;refine GT_nil ?_;refine GE_ret Tryz.func16 rfl (fun w hw => ⟨?_, hw.nil⟩)
    rw [e]
  · have e : ofS x side = x.b - 1 := (by unfold ofS; rw [if_neg h3])
    refine GE_skip ?_;refine Zq [2] 4 [] rfl rfl ?_;refine Zg rfl fo_47_2 rfl ag_2 rfl ?_;refine Za rfl (by omega) ?_;refine Zv rfl ?_;refine GT_nil ?_;refine GE_ret Tryz.func16 rfl (fun w hw => ⟨?_, hw.nil⟩)
    rw [e]
end
end Go.Proofs.YtncleikbggjmjaaGreatDoor.Lis
/- The discs that have a cause, the certain and the possible ones: walked. -/
namespace Go.Proofs.YtncleikbggjmjaaGreatDoor.Lis
open Go.Sx Go.Proofs
section
variable {p : List Plt} {d : List Dsc} {h : List Hrg} {A A2 A3 A5 : Option Addr} {c c2 c3 c5 : Nat} {side : Int} {w : World}
end
end Go.Proofs.YtncleikbggjmjaaGreatDoor.Lis
/- The certain and the possible discs, and the suspects: walked. -/
namespace Go.Proofs.YtncleikbggjmjaaGreatDoor.Lis
open Go.Sx Go.Proofs
section
variable {p : List Plt} {d : List Dsc} {h : List Hrg} {A A2 A5 : Option Addr} {c c2 c5 : Nat} {side : Int} {w : World}
theorem C_Certain1 {n a : Nat} : Con0 Tryz.prog 28 [I n, I a] w (.bool (decide (0 < n) && decide (n = a))) := by
  have hd : ∀ q : Bool, (0 < n ∧ n = a ↔ q = true) → Value.bool q = Value.bool (decide (0 < n) && decide (n = a)) := fun q hq => congrArg Value.bool (by rw [Bool.eq_iff_iff, ← hq]; simp)
  refine Ret_of (vs := [_, _]) hm none' Tryz.func28 rfl Tryz.ntmps28 rfl ?_
  dsimp only [slotsOf]
  refine Zp 1 [] rfl ?_;refine Zv rfl ?_;refine GT_nil ?_;refine Zp 8 [] rfl ?_;refine Zv rfl ?_;refine GT_S rfl (V_gtr rfl rfl rfl) ?_;refine Zv rfl ?_;refine GT_split (d := 7) rfl (fun h1 => ?_) (fun h1 => ?_)
  · refine Zr 2 rfl ?_;refine GT_S rfl (V_eql rfl rfl rfl) ?_;refine Zr 2 rfl ?_;refine GT_nil ?_;refine GE_ret Tryz.func28 rfl (fun w hw => ⟨?_, hw.nil⟩)
    refine hd _ ?_;first | (simp; done) | (simp; omega)
  · refine Zr 5 rfl ?_;refine GT_nil ?_;refine GE_ret Tryz.func28 rfl (fun w hw => ⟨?_, hw.nil⟩)
    refine hd _ ?_;first | (simp; done) | (simp; omega)
/-! Certain -/
def certL (p : List Plt) (d : List Dsc) (side : Int) (h : List Hrg) : List Int := if hearE p d side h = 0 then certS d (leftS p d side h) else []
theorem certB_of {xs : List Sus} {k n : Nat} (hn : n = xs.length) : certB xs k = (decide (0 < mny xs k) && decide (mny xs k = n)) := by subst hn; rfl
set_option maxRecDepth 10000 in
theorem C_filter_cert (hp : RdL w 7 ePlt A p) (hwf : ∀ x ∈ p, Plt.wf x) (hd : RdL w 7 eDsc A2 d) (hdf : ∀ x ∈ d, Dsc.wf x) (hh : RdL w 2 eHrg A5 h) :
    Con Tryz.prog 27 [.slice A p.length c, .slice A2 d.length c2, I side, .slice A5 h.length c5, .func (.func 28) #[] #[]] w (fun y : Option Addr × Nat × Items => Own 1 2 eI (certL p d side h) (.slice y.1 (certL p d side h).length y.2.1) y.2.2)
      (fun y => .tuple #[.slice y.1 (certL p d side h).length y.2.1, I (hearE p d side h)]) (fun y => y.2.2) := by
  by_cases he : hearE p d side h = 0
  · have hR := (hearE_zero.1 he).1
    have hle := leftS_le (h := h) hR
    have hdl := hR.dl
    have hcl : certL p d side h = certS d (leftS p d side h) := if_pos he
    refine Ret_of (vs := [_, _, _, _, _]) hm none' Tryz.func27 rfl Tryz.ntmps27 rfl ?_
    dsimp only [slotsOf]
    refine Zp 2 [] rfl ?_;refine Zr 2 rfl ?_;refine GT_nil ?_;refine Zp 12 [4] rfl ?_;refine Zr 4 rfl ?_;refine ZC rfl rn_25 (fun w hw => C_left_ok (hp.sh hw) hwf (hd.sh hw) hdf (hh.sh hw) he) (fun _ _ => GR_nil) (fun y hy => ?_)
    obtain ⟨g, A3, c3, I3, A4, c4, I4, l, Al, cl, Il, Ih⟩ := y; obtain ⟨hO3, hO4, hL⟩ := hy; dsimp only [LeftY.items] at hO3 hO4 hL ⊢; have hll := hL.len; have hxl : (l.map SusA.x).length = l.length := List.length_map ..
    refine Zr 7 rfl ?_;refine Zz ?_;refine Zq [4, 12, 13, 14] 2 [] rfl rfl ?_;refine Zv rfl ?_;refine GT_S rfl (V_neq rfl rfl rfl) ?_;refine GT_nil ?_;refine GE_condNot rfl (fun h1 => ?_) (fun h1 => ?_)
    · exact absurd rfl h1
    · refine GE_skip ?_;refine Zp 1 [] rfl ?_;refine Zv rfl ?_;refine Zz ?_;refine Zp 5 [2] rfl ?_;refine Zr 2 rfl ?_;refine ZC rfl rn_51 (fun w hw => C_many (BlkAt.of hw) (hL.own.rdH eSus_len hw) (hL.hold _ _ _ (hw.chunk (I := Ih))) hL.n hdl (by omega)) (fun _ _ => GR_nil) (fun u hu => ?_);refine Zn rfl Tryz.underlying38 ?_;refine Zv rfl ?_;refine GT_nil ?_;refine GE_block ?_;refine GE_to (GE_loop (ι := Nat × Option Addr × Nat × Items) (fun x => d.length - x.1) (fun x => [(4, .func (.func 28) #[] #[]), (12, ptr g 0), (13, .slice Al l.length cl), (15, .slice x.2.1 (pickTo d (certB (l.map SusA.x)) x.1).length x.2.2.1), (32, .slice (some ⟨u.1, 0, none⟩) d.length d.length), (33, I d.length), (34, I x.1)]) (fun x => x.2.2.2 ++ ((g, blk (roomC A A3 A4 p.length d.length c c3 c4) 127) :: (u.2 ++ I3))) (fun x => x.1 ≤ d.length ∧ Own 1 2 eI (pickTo d (certB (l.map SusA.x)) x.1) (.slice x.2.1 (pickTo d (certB (l.map SusA.x)) x.1).length x.2.2.1) x.2.2.2) ?_ (0, none, 0, []) ?_) ⟨rfl, rfl, rfl, rfl, rfl, rfl, rfl, trivial⟩ (HS.chunk (I := []) (HS.cons rfl (HS.chunk HS.last)))
      · rintro ⟨k, A', c', I'⟩ ⟨hk, hO⟩ ih; dsimp only at hk hO ih ⊢; have hpl := pickTo_le (d := d) (f := certB (l.map SusA.x)) (k := k)
        refine Zp 1 [] rfl ?_;refine GT_S rfl (V_lss rfl rfl rfl) ?_;refine Zz ?_;refine GE_cond rfl (fun h2 => ?_) (fun h2 => ?_)
        · have hkl : k < d.length := (by omega); have hBk := certB_of (xs := l.map SusA.x) (k := k) hxl.symm
          refine GE_skip ?_;refine GE_seq ?_;refine GE_block ?_;refine Zp 5 [] rfl ?_;refine Zv rfl ?_;refine GT_S rfl (V_index rfl rfl rfl Tryz.underlying38 sz_3 (k := k) rfl hkl rfl) ?_;refine ZL rfl ag_3 (CellAt.own0 hu eI_len (by rw [manyL_len]; omega) (by rw [manyL_get hkl]; rfl)) ?_;refine Zr 2 rfl ?_;refine GT_nil ?_;refine Zq [4, 12, 13, 15, 16, 17, 32, 33, 34] 5 [4] rfl rfl ?_;refine Zr 3 rfl ?_;refine Zn rfl Tryz.underlying87 ?_;refine Zc rfl rn_28 (fun w hw => C_Certain1 (n := mny (l.map SusA.x) k) (a := l.length)) GR_nil ?_
          rw [← hBk]
          refine GT_nil ?_;refine GE_condB rfl (fun h3 => ?_) (fun h3 => ?_)
          · have e1 : pickTo d (certB (l.map SusA.x)) k ++ [(d.getD k default).ser] = pickTo d (certB (l.map SusA.x)) (k + 1) := (by first | rw [pickTo_succ, h3, if_pos rfl] | rw [pickTo_succ, if_pos (show certB _ k = true from decide_eq_true h3)])
            refine Zs [4, 12, 13, 15, 16, 32, 33, 34] rfl ?_;refine ZP 11 [8, 9, 10] rfl ?_;refine Zr 3 rfl ?_;refine Zg rfl fo_127_1 rfl ag_43 rfl ?_;refine Zv rfl ?_;refine GT_S rfl (V_index rfl rfl rfl Tryz.underlying43 sz_2 (k := k) rfl hkl (hO3.isSome (k := k) (by rw [serS_len]; exact hkl))) ?_;refine ZL rfl ag_2 (CellAt.own0 hO3 eI_len (by rw [serS_len]; exact hkl) (by rw [serS_get hkl]; rfl)) ?_;refine GT_buildSlice (z := [_]) rfl rfl rfl rfl rfl Tryz.underlying43 zc_2 sz_2 (by decide) rfl rfl (fun _ => GR_nil) (fun b52 => ?_);refine GT_append (enc := eI) (m := [(d.getD k default).ser]) rfl rfl rfl rfl rfl rfl rfl hO (fun w m => RdL.own' m eI_len) Tryz.underlying43 zc_2 sz_2 ⟨rfl, by decide⟩ by_2 ⟨by simp only [List.length_singleton]; omega, by simp only [List.length_singleton]; omega⟩ eI_len eI_one (fun _ _ _ _ => GR_nil) (fun A2' c2' I2' hO2 => ?_);refine Zw rfl ?_;refine GT_nil ?_;refine GE_inBlock ?_;refine Zs [4, 12, 13, 15, 32, 33, 34] rfl ?_;refine ZP 2 [1] rfl ?_;refine Za rfl (by omega) ?_;refine Zw rfl ?_;refine GT_nil ?_
            first
              | (rw [e1] at hO2 ⊢; exact GE_to (ih (k + 1, A2', c2', I2') ⟨by dsimp only; omega, hO2⟩ (by dsimp only; omega)) ⟨rfl, rfl, rfl, rfl, rfl, rfl, rfl, trivial⟩ (HS.chunk (HS.cons rfl (HS.chunk HS.last))))
              | (have hO2 := hO; rw [← e1] at hO2 ⊢; exact GE_to (ih (k + 1, A', c', I') ⟨by dsimp only; omega, hO2⟩ (by dsimp only; omega)) ⟨rfl, rfl, rfl, rfl, rfl, rfl, rfl, trivial⟩ (HS.chunk (HS.cons rfl (HS.chunk HS.last))))
          · have e1 : pickTo d (certB (l.map SusA.x)) (k + 1) = pickTo d (certB (l.map SusA.x)) k := (by first | rw [pickTo_succ, h3, if_neg (by decide), List.append_nil] | (have hq : ¬ certB (l.map SusA.x) k = true := (fun q => h3 (of_decide_eq_true (by rw [hBk] at q; exact q))); rw [pickTo_succ, if_neg hq, List.append_nil]))
            refine GE_skip ?_;refine GE_inBlock ?_;refine Zs [4, 12, 13, 15, 32, 33, 34] rfl ?_;refine ZP 2 [1] rfl ?_;refine Za rfl (by omega) ?_;refine Zw rfl ?_;refine GT_nil ?_
            first
              | (rw [e1] at hO2 ⊢; exact GE_to (ih (k + 1, A2', c2', I2') ⟨by dsimp only; omega, hO2⟩ (by dsimp only; omega)) ⟨rfl, rfl, rfl, rfl, rfl, rfl, rfl, trivial⟩ (HS.chunk (HS.cons rfl (HS.chunk HS.last))))
              | (have hO2 := hO; rw [← e1] at hO2 ⊢; exact GE_to (ih (k + 1, A', c', I') ⟨by dsimp only; omega, hO2⟩ (by dsimp only; omega)) ⟨rfl, rfl, rfl, rfl, rfl, rfl, rfl, trivial⟩ (HS.chunk (HS.cons rfl (HS.chunk HS.last))))
        · obtain rfl : k = d.length := (by omega)
          refine GE_exit rfl ?_;refine Zq [15] 3 [] rfl rfl ?_;refine Zr 3 rfl ?_;refine GT_nil ?_;refine GE_ret Tryz.func27 ⟨_, _, rfl, rfl, rfl⟩ (fun w hw => ?_)
          have e2 : pickTo d (certB (l.map SusA.x)) d.length = certL p d side h := (by rw [hcl, ← hL.eq]; rfl); rw [e2] at hO ⊢; rw [he]; exact ⟨(A', c', I'), hO, rfl, hw.chunk⟩
      · exact ⟨Nat.zero_le _, Own.nil⟩
  · have hcl : certL p d side h = [] := if_neg he
    refine Ret_of (vs := [_, _, _, _, _]) hm none' Tryz.func27 rfl Tryz.ntmps27 rfl ?_
    dsimp only [slotsOf]
    refine Zp 2 [] rfl ?_;refine Zr 2 rfl ?_;refine GT_nil ?_;refine Zp 12 [4] rfl ?_;refine Zr 4 rfl ?_;refine Zc rfl rn_25 (fun w hw => C_left_err (hp.sh hw) hwf (hd.sh hw) hdf (hh.sh hw) he) GR_nil ?_;refine Zr 7 rfl ?_;refine Zz ?_;refine Zq [4, 12, 13, 14] 2 [] rfl rfl ?_;refine Zv rfl ?_;refine GT_S rfl (V_neq rfl rfl rfl) ?_;refine GT_nil ?_;refine GE_condNot rfl (fun h1 => ?_) (fun h1 => ?_)
    · refine Zq [14] 3 [] rfl rfl ?_;refine Zr 3 rfl ?_;refine GT_nil ?_;refine GE_ret Tryz.func27 ⟨_, _, rfl, rfl, rfl⟩ (fun w hw => ?_)
      rw [hcl]; exact ⟨(none, 0, []), Own.nil, rfl, hw.nil⟩
    · exact absurd h1 he
theorem C_Certain (hp : RdL w 7 ePlt A p) (hwf : ∀ x ∈ p, Plt.wf x) (hd : RdL w 7 eDsc A2 d) (hdf : ∀ x ∈ d, Dsc.wf x) (hh : RdL w 2 eHrg A5 h) :
    Con Tryz.prog 13 [.slice A p.length c, .slice A2 d.length c2, I side, .slice A5 h.length c5] w (fun y : Option Addr × Nat × Items => Own 1 2 eI (certL p d side h) (.slice y.1 (certL p d side h).length y.2.1) y.2.2)
      (fun y => .tuple #[.slice y.1 (certL p d side h).length y.2.1, I (hearE p d side h)]) (fun y => y.2.2) := by
  refine Ret_of (vs := [_, _, _, _]) hm none' Tryz.func13 rfl Tryz.ntmps13 rfl ?_
  dsimp only [slotsOf]
  refine Zp 2 [] rfl ?_;refine Zr 2 rfl ?_;refine GT_nil ?_;refine Zp 9 [4] rfl ?_;refine Zr 4 rfl ?_;refine ZC rfl rn_27 (fun w hw => C_filter_cert (hp.sh hw) hwf (hd.sh hw) hdf (hh.sh hw)) (fun _ _ => GR_nil) (fun y hy => ?_);refine Zr 4 rfl ?_;refine GT_nil ?_;refine GE_ret Tryz.func13 ⟨_, _, rfl, rfl, rfl⟩ (fun w hw => ⟨y, hy, rfl, hw.chunk⟩)
  skip
/-! Possible -/
/-! the suspects -/
def cptTo (l : List Int) : Nat → List Int
  | 0 => []
  | i + 1 => if 0 < i ∧ l.getD i default = l.getD (i - 1) default then cptTo l i else cptTo l i ++ [l.getD i default]
def cpt (l : List Int) : List Int := cptTo l l.length
theorem cptTo_le (l : List Int) : ∀ i, (cptTo l i).length ≤ i
  | 0 => Nat.le_refl _
  | i + 1 => by
    have := cptTo_le l i
    rw [cptTo]; split
    · omega
    · rw [List.length_append, List.length_singleton]; omega
theorem cptTo_mem (l : List Int) (x : Int) : ∀ i, i ≤ l.length → (x ∈ cptTo l i ↔ ∃ q, q < i ∧ l.getD q default = x)
  | 0, _ => by simp [cptTo]
  | i + 1, hi => by
    have ih := cptTo_mem l x i (by omega)
    rw [cptTo]
    split
    · rename_i hc
      rw [ih]
      constructor
      · rintro ⟨q, hq, e⟩; exact ⟨q, by omega, e⟩
      · rintro ⟨q, hq, e⟩
        rcases Nat.lt_or_ge q i with h | h
        · exact ⟨q, h, e⟩
        · exact ⟨i - 1, by omega, by rw [← hc.2, ← e]; congr 1; omega⟩
    · rw [List.mem_append, List.mem_singleton, ih]
      constructor
      · rintro (⟨q, hq, e⟩ | e)
        · exact ⟨q, by omega, e⟩
        · exact ⟨i, by omega, e.symm⟩
      · rintro ⟨q, hq, e⟩
        rcases Nat.lt_or_ge q i with h | h
        · exact .inl ⟨q, h, e⟩
        · right; rw [← e]; congr 1; omega
theorem cpt_mem {l : List Int} {x : Int} : x ∈ cpt l ↔ x ∈ l := by
  unfold cpt
  rw [cptTo_mem l x _ (Nat.le_refl _)]
  constructor
  · rintro ⟨q, hq, rfl⟩; simp [List.getD, hq]
  · intro h
    obtain ⟨i, hi, rfl⟩ := List.getElem_of_mem h
    exact ⟨i, hi, by simp [List.getD, hi]⟩
theorem cptTo_diff {l : List Int} : ∀ k, k ≤ l.length → (∀ i, 0 < i → i < k → l.getD i default ≠ l.getD (i - 1) default) → cptTo l k = l.take k
  | 0, _, _ => by simp [cptTo]
  | k + 1, hk, h => by
    rw [cptTo, if_neg (fun q => h k q.1 (by omega) q.2), cptTo_diff k (by omega) (fun i h1 h2 => h i h1 (by omega)), List.take_succ_eq_append_getElem (show k < l.length by omega)]
    simp [List.getD, show k < l.length by omega]
set_option maxRecDepth 10000 in
theorem C_Compact {l : List Int} {A : Option Addr} {c : Nat} {I0 : Items} {w w0 : World} {H H1 : Items} [hch : HChunk I0 H H1] (m : SH w0 none' H w) (hO : Own 1 3 eI l (.slice A l.length c) I0) (hl : l.length ≤ 1000000) :
    Ret Tryz.prog 26 [.slice A l.length c].toArray w fun v w' => ∃ I', Own 1 3 eI (cpt l) (.slice A (cpt l).length c) I' ∧ v = .slice A (cpt l).length c ∧ SH w0 none' (I' ++ H1) w' := by
  have m' := m.perm hch.perm
  have hcap : l.length ≤ c := (by obtain ⟨A', c', e, h⟩ := hO.form; cases e; exact h)
  refine Ret_ofH (vs := [_]) hm none' Tryz.func26 rfl Tryz.ntmps26 rfl m' ?_
  dsimp only [slotsOf]
  refine Zp 1 [] rfl ?_;refine Zv rfl ?_;refine Zz ?_;refine Zp 3 [] rfl ?_;refine Zv rfl ?_;refine Zn rfl Tryz.underlying38 ?_;refine GT_S rfl (V_lss rfl rfl rfl) ?_;refine GT_nil ?_;refine GE_cond rfl (fun h1 => ?_) (fun h1 => ?_)
  · have hc : cpt l = l := (by unfold cpt; rw [cptTo_diff _ (Nat.le_refl _) (fun i h1 h2 => by omega), List.take_length])
    refine Zq [0] 2 [] rfl rfl ?_;refine Zr 2 rfl ?_;refine GT_nil ?_;refine GE_ret Tryz.func26 rfl (fun w hw => ?_)
    exact ⟨I0, by rw [hc]; exact hO, by rw [hc], hw⟩
  · refine GE_skip ?_;refine GE_seq ?_;refine Zq [0] 1 [] rfl rfl ?_;refine Zv rfl ?_;refine GT_nil ?_;refine GE_block ?_;refine GE_to (GE_loop (ι := Nat) (fun k => l.length - k) (fun k => [(0, .slice A l.length c), (3, I k)]) (fun k => I0 ++ H1) (fun k => 1 ≤ k ∧ k ≤ l.length ∧ ∀ i, 0 < i → i < k → l.getD i default ≠ l.getD (i - 1) default) ?_ 1 ?_) ⟨rfl, rfl, trivial⟩ HS.all
    · rintro k ⟨hk1, hk, hdi⟩ ih
      refine GE_seq ?_;refine Zp 4 [] rfl ?_;refine Zr 2 rfl ?_;refine Zn rfl Tryz.underlying38 ?_;refine GT_S rfl (V_lss rfl rfl rfl) ?_;refine GT_nil ?_;refine GE_cond rfl (fun h2 => ?_) (fun h2 => ?_)
      · have hkl : k < l.length := (by omega)
        refine GE_skip ?_;refine GE_seq ?_;refine GE_block ?_;refine GE_seq ?_;refine Zs [0, 3] rfl ?_;refine GE_drawn (.st 0 (.st 1 (.st 2 (.st 3 (.st 4 (.st 5 (.st 6 (.st 7 (.st 8 (.st 9 .nil)))))))))) [] (by decide +kernel) ?_;refine Zr 2 rfl ?_;refine GT_S rfl (V_index rfl rfl rfl Tryz.underlying38 sz_3 (k := k) rfl hkl (hO.isSome (k := k) hkl)) ?_;refine ZL rfl ag_3 (CellAt.own0 hO eI_len hkl rfl) ?_;refine Zr 2 rfl ?_;refine Za rfl (by omega) ?_;refine GT_S rfl (V_index rfl rfl rfl Tryz.underlying38 sz_3 (k := k - 1) (by omega) (by omega) (hO.isSome (k := k) hkl)) ?_;refine ZL rfl ag_3 (CellAt.own0 hO eI_len (by omega) rfl) ?_;refine GT_S rfl (V_eql rfl rfl rfl) ?_;refine GT_nil ?_;refine GE_cond rfl (fun h3 => ?_) (fun h3 => ?_)
        · have hc0 : cptTo l (k + 1) = l.take k := (by rw [cptTo, if_pos ⟨by omega, h3⟩, cptTo_diff k (by omega) hdi])
          refine Zq [0, 3] 4 [] rfl rfl ?_;refine Zr 2 rfl ?_;refine GT_S rfl (V_sliceFrom rfl rfl rfl Tryz.underlying38 sz_3 (lo := k) (by omega)) ?_;refine Zv rfl ?_;refine Zz ?_;refine Zp 1 [] rfl ?_;refine Zv rfl ?_;refine GT_nil ?_;refine GE_block ?_;refine GE_to (GE_loop (ι := Nat × List Int × Items) (fun x => l.length - (k + x.1)) (fun x => [(0, .slice A l.length c), (3, I (cptTo l (k + x.1)).length), (4, .slice (slA c k 1 A) (l.length - k) (c - k)), (5, I x.1)]) (fun x => x.2.2 ++ H1) (fun x => 1 ≤ x.1 ∧ k + x.1 ≤ l.length ∧ x.2.1.length = l.length ∧ x.2.1.take (cptTo l (k + x.1)).length = cptTo l (k + x.1) ∧ (cptTo l (k + x.1)).length < k + x.1 ∧ (∀ i, (cptTo l (k + x.1)).length ≤ i → x.2.1.getD i default = l.getD i default) ∧ Own 1 3 eI x.2.1 (.slice A l.length c) x.2.2) ?_ (1, l, I0) ?_) ⟨rfl, lookI rfl (by dsimp only; rw [hc0, List.length_take]; omega), rfl, rfl, trivial⟩ HS.all
          · rintro ⟨j, o, I1⟩ ⟨hj1, hj, hol, hot, hlt, hoi, hO1⟩ ih2; dsimp only at hj1 hj hol hot hlt hoi hO1 ih2 ⊢
            refine GE_seq ?_;refine Zp 4 [] rfl ?_;refine Zr 2 rfl ?_;refine Zn rfl Tryz.underlying38 ?_;refine GT_S rfl (V_lss rfl rfl rfl) ?_;refine GT_nil ?_;refine GE_cond rfl (fun h4 => ?_) (fun h4 => ?_)
            · have hjl : k + j < l.length := (by omega); have hdr : ∀ q, k + q < l.length → (cptTo l (k + j)).length ≤ k + q → (o.drop k).getD q default = l.getD (k + q) default := (fun q hq hq2 => by rw [← hoi _ hq2]; simp [List.getD]); have hsA : (slA c k 1 A).isSome = true := (by have := hO.isSome (k := k) hkl; unfold slA; split <;> simp [this]); have hrd : ∀ w, SH w0 none' (I1 ++ H1) w → RdL w 1 eI (slA c k 1 A) (o.drop k) := (fun w m => (hO1.rdH eI_len m).drop k (by omega))
              refine GE_skip ?_;refine GE_seq ?_;refine GE_block ?_;refine GE_seq ?_;refine Zs [0, 3, 4, 5] rfl ?_;refine GE_drawn (.st 0 (.st 1 (.st 2 (.st 3 (.st 4 (.st 5 (.st 6 (.st 7 (.st 8 (.st 9 .nil)))))))))) [] (by decide +kernel) ?_;refine Zr 2 rfl ?_;refine GT_S rfl (V_index rfl rfl rfl Tryz.underlying38 sz_3 (k := j) rfl (by omega) hsA) ?_;refine ZL rfl ag_3 (CellAt.rdH0 hrd (by rw [List.length_drop]; omega) (by rw [hdr j hjl (by omega)]; rfl)) ?_;refine Zr 2 rfl ?_;refine Za rfl (by omega) ?_;refine GT_S rfl (V_index rfl rfl rfl Tryz.underlying38 sz_3 (k := j - 1) (by omega) (by omega) hsA) ?_;refine ZL rfl ag_3 (CellAt.rdH0 hrd (by rw [List.length_drop]; omega) (by rw [hdr (j - 1) (by omega) (by omega)]; rfl)) ?_;refine GT_S rfl (V_neq rfl rfl rfl) ?_;refine GT_nil ?_;refine GE_condNot rfl (fun h5 => ?_) (fun h5 => ?_)
              · have hcs : cptTo l (k + j + 1) = cptTo l (k + j) ++ [l.getD (k + j) default] := (by rw [cptTo, if_neg (fun q => h5 (by rw [q.2]; congr 1; omega))])
                refine Zq [0, 3, 4, 5] 8 [7] rfl rfl ?_;refine Zr 4 rfl ?_;refine GT_S rfl (V_index rfl rfl rfl Tryz.underlying38 sz_3 (k := j) rfl (by omega) hsA) ?_;refine ZL rfl ag_3 (CellAt.rdH0 hrd (by rw [List.length_drop]; omega) (by rw [hdr j hjl (by omega)]; rfl)) ?_;refine GT_S rfl (V_index rfl rfl rfl Tryz.underlying38 sz_3 (k := (cptTo l (k + j)).length) rfl (by omega) (hO.isSome (k := k) hkl)) ?_;refine GT_storeOwn (enc := eI) (q := (cptTo l (k + j)).length) (xx := l.getD (k + j) default) rfl rfl rfl rfl rfl rfl rfl sz_3 hO1 eI_len eI_one (by omega) (by decide) (fun _ _ => GR_nil) (fun I2 hO2 => ?_);refine GT_nil ?_;refine Zs [0, 3, 4, 5] rfl ?_
                have hst : (o.set (cptTo l (k + j)).length (l.getD (k + j) default)).take (cptTo l (k + j) ++ [l.getD (k + j) default]).length = cptTo l (k + j) ++ [l.getD (k + j) default] := (by rw [List.length_append, List.length_singleton, List.take_succ_eq_append_getElem (by rw [List.length_set]; omega), List.take_set_of_le (Nat.le_refl _), hot]; simp)
                refine ZP 3 [2] rfl ?_;refine Zv rfl ?_;refine Za rfl (by omega) ?_;refine Zw rfl ?_;refine GT_nil ?_;refine GE_inBlock ?_;refine ZP 3 [2] rfl ?_;refine Zv rfl ?_;refine Za rfl (by omega) ?_;refine Zw rfl ?_;refine GT_nil ?_
                first
                  | exact GE_to (ih2 (j + 1, _, I2) ⟨by dsimp only; omega, by dsimp only; omega, by simpa using hol, by dsimp only; rw [← Nat.add_assoc, hcs]; exact hst, by dsimp only; rw [← Nat.add_assoc, hcs, List.length_append, List.length_singleton]; omega, (fun i hi => by dsimp only at hi ⊢; rw [← Nat.add_assoc, hcs, List.length_append, List.length_singleton] at hi; rw [getD_set (by omega), if_neg (by omega)]; exact hoi i (by omega)), hO2⟩ (by dsimp only; omega)) ⟨rfl, lookI rfl (by rw [← Nat.add_assoc, hcs, List.length_append, List.length_singleton]; push_cast; rfl), rfl, rfl, trivial⟩ HS.all
                  | exact GE_to (ih2 (j + 1, o, I1) ⟨by dsimp only; omega, by dsimp only; omega, hol, by dsimp only; rw [← Nat.add_assoc, hcs]; exact hot, by dsimp only; rw [← Nat.add_assoc, hcs]; omega, (fun i hi => by dsimp only at hi ⊢; rw [← Nat.add_assoc, hcs] at hi; exact hoi i hi), hO1⟩ (by dsimp only; omega)) ⟨rfl, lookI rfl (by rw [← Nat.add_assoc, hcs]), rfl, rfl, trivial⟩ HS.all
              · have hcs : cptTo l (k + j + 1) = cptTo l (k + j) := (by rw [cptTo, if_pos ⟨by omega, by rw [h5]; congr 1; omega⟩])
                refine GE_skip ?_;refine GE_inBlock ?_;refine Zs [0, 3, 4, 5] rfl ?_;refine ZP 3 [2] rfl ?_;refine Zv rfl ?_;refine Za rfl (by omega) ?_;refine Zw rfl ?_;refine GT_nil ?_
                first
                  | exact GE_to (ih2 (j + 1, _, I2) ⟨by dsimp only; omega, by dsimp only; omega, by simpa using hol, by dsimp only; rw [← Nat.add_assoc, hcs]; exact hst, by dsimp only; rw [← Nat.add_assoc, hcs, List.length_append, List.length_singleton]; omega, (fun i hi => by dsimp only at hi ⊢; rw [← Nat.add_assoc, hcs, List.length_append, List.length_singleton] at hi; rw [getD_set (by omega), if_neg (by omega)]; exact hoi i (by omega)), hO2⟩ (by dsimp only; omega)) ⟨rfl, lookI rfl (by rw [← Nat.add_assoc, hcs, List.length_append, List.length_singleton]; push_cast; rfl), rfl, rfl, trivial⟩ HS.all
                  | exact GE_to (ih2 (j + 1, o, I1) ⟨by dsimp only; omega, by dsimp only; omega, hol, by dsimp only; rw [← Nat.add_assoc, hcs]; exact hot, by dsimp only; rw [← Nat.add_assoc, hcs]; omega, (fun i hi => by dsimp only at hi ⊢; rw [← Nat.add_assoc, hcs] at hi; exact hoi i hi), hO1⟩ (by dsimp only; omega)) ⟨rfl, lookI rfl (by rw [← Nat.add_assoc, hcs]), rfl, rfl, trivial⟩ HS.all
            · have hkj : k + j = l.length := (by omega); rw [hkj] at hot hlt hoi; have hcc : cpt l = cptTo l l.length := rfl; rw [← hcc] at hot hlt hoi; have hcc2 : cptTo l (k + j) = cpt l := (by rw [hkj]; rfl); rw [hcc2]
              refine GE_exit rfl ?_;refine Zq [0, 3] 4 [3] rfl rfl ?_;refine Zr 2 rfl ?_;refine GT_S rfl (V_sliceFrom rfl rfl rfl Tryz.underlying38 sz_3 (lo := (cpt l).length) (by omega)) ?_;refine GT_clearFrom (enc := eI) (q := (cpt l).length) (xx := 0) rfl rfl rfl rfl rfl hO1 Tryz.underlying38 zc_3 eI_len rfl rfl (by omega) (fun _ _ => GR_nil) (fun I2 hO2 => ?_);refine GT_nil ?_;refine Zp 4 [] rfl ?_;refine Zr 2 rfl ?_;refine GT_S rfl (V_sliceTo rfl rfl rfl Tryz.underlying38 (by rw [sz_3]; rfl) (h := (cpt l).length) (by omega)) ?_;refine Zv rfl ?_;refine GT_nil ?_;refine GE_ret Tryz.func26 rfl (fun w hw => ?_)
              have hlen : (o.take (cpt l).length ++ List.replicate (o.length - (cpt l).length) (0 : Int)).length = l.length := (by rw [List.length_append, List.length_take, List.length_replicate]; omega); rw [← hlen] at hO2; have hO3 := hO2.pre eI_len (by omega); rw [hot] at hO3; exact ⟨I2, hO3, rfl, hw⟩
          · exact ⟨Nat.le_refl _, by dsimp only; omega, rfl, by dsimp only; rw [hc0, List.length_take, Nat.min_eq_left (by omega)], by dsimp only; rw [hc0, List.length_take]; omega, fun i _ => rfl, hO⟩
        · refine GE_skip ?_;refine GE_inBlock ?_;refine Zs [0, 3] rfl ?_;refine ZP 3 [2] rfl ?_;refine Zv rfl ?_;refine Za rfl (by omega) ?_;refine Zw rfl ?_;refine GT_nil ?_
          exact GE_to (ih (k + 1) ⟨by omega, by omega, fun i a1 a2 => by rcases Nat.lt_or_ge i k with q | q; exact hdi i a1 q; rw [show i = k by omega]; exact h3⟩ (by omega)) ⟨rfl, rfl, trivial⟩ HS.all
      · obtain rfl : k = l.length := (by omega); have hc : cpt l = l := (by unfold cpt; rw [cptTo_diff _ (Nat.le_refl _) hdi, List.take_length])
        refine GE_exit rfl ?_;refine Zq [0] 2 [] rfl rfl ?_;refine Zr 2 rfl ?_;refine GT_nil ?_;refine GE_ret Tryz.func26 rfl (fun w hw => ?_)
        exact ⟨I0, by rw [hc]; exact hO, by rw [hc], hw⟩
    · exact ⟨Nat.le_refl _, by omega, fun i h1 h2 => by omega⟩
def suspL (p : List Plt) (d : List Dsc) (side : Int) (h : List Hrg) : List Int := if hearE p d side h = 0 then cpt ((leftS p d side h).map Sus.plate) else []
set_option maxRecDepth 10000 in
theorem C_Suspects (hp : RdL w 7 ePlt A p) (hwf : ∀ x ∈ p, Plt.wf x) (hd : RdL w 7 eDsc A2 d) (hdf : ∀ x ∈ d, Dsc.wf x) (hh : RdL w 2 eHrg A5 h) :
    Con Tryz.prog 12 [.slice A p.length c, .slice A2 d.length c2, I side, .slice A5 h.length c5] w (fun y : Option Addr × Nat × Items => Own 1 3 eI (suspL p d side h) (.slice y.1 (suspL p d side h).length y.2.1) y.2.2)
      (fun y => .tuple #[.slice y.1 (suspL p d side h).length y.2.1, I (hearE p d side h)]) (fun y => y.2.2) := by
  by_cases he : hearE p d side h = 0
  · have hR := (hearE_zero.1 he).1
    have hle := leftS_le (h := h) hR
    have hcl : suspL p d side h = cpt ((leftS p d side h).map Sus.plate) := if_pos he
    refine Ret_of (vs := [_, _, _, _]) hm none' Tryz.func12 rfl Tryz.ntmps12 rfl ?_
    dsimp only [slotsOf]
    refine Zp 2 [] rfl ?_;refine Zr 2 rfl ?_;refine GT_nil ?_;refine Zp 12 [4] rfl ?_;refine Zr 4 rfl ?_;refine ZC rfl rn_25 (fun w hw => C_left_ok (hp.sh hw) hwf (hd.sh hw) hdf (hh.sh hw) he) (fun _ _ => GR_nil) (fun y hy => ?_)
    obtain ⟨g, A3, c3, I3, A4, c4, I4, l, Al, cl, Il, Ih⟩ := y; obtain ⟨hO3, hO4, hL⟩ := hy; dsimp only [LeftY.items] at hO3 hO4 hL ⊢; have hll := hL.len
    refine Zr 7 rfl ?_;refine GT_nil ?_;refine Zq [11, 12] 1 [] rfl rfl ?_;refine Zv rfl ?_;refine Zz ?_;refine Zp 3 [] rfl ?_;refine Zv rfl ?_;refine Zn rfl Tryz.underlying87 ?_;refine Zv rfl ?_;refine GT_nil ?_;refine GE_block ?_;refine GE_to (GE_loop (ι := Nat × Option Addr × Nat × Items) (fun x => l.length - x.1) (fun x => [(12, I 0), (13, .slice x.2.1 ((l.take x.1).map fun y => y.x.plate).length x.2.2.1), (25, .slice Al l.length cl), (26, I l.length), (27, I x.1)]) (fun x => x.2.2.2 ++ Il) (fun x => x.1 ≤ l.length ∧ Own 1 3 eI ((l.take x.1).map fun y => y.x.plate) (.slice x.2.1 ((l.take x.1).map fun y => y.x.plate).length x.2.2.1) x.2.2.2) ?_ (0, none, 0, []) ?_) ⟨rfl, rfl, rfl, rfl, rfl, trivial⟩ (HS.chunk (I := []) HS.last)
    · rintro ⟨k, A', c', I'⟩ ⟨hk, hO⟩ ih; dsimp only at hk hO ih ⊢
      refine Zp 1 [] rfl ?_;refine GT_S rfl (V_lss rfl rfl rfl) ?_;refine Zz ?_;refine GE_cond rfl (fun h1 => ?_) (fun h1 => ?_)
      · have hkl : k < l.length := (by omega); have e1 : ((l.take k).map fun y => y.x.plate) ++ [(l.getD k default).x.plate] = (l.take (k + 1)).map fun y => y.x.plate := (by rw [List.take_succ_eq_append_getElem hkl, List.map_append]; simp [List.getD, hkl]); have htl : ((l.take k).map fun y => y.x.plate).length = k := (by rw [List.length_map, List.length_take]; omega)
        refine GE_skip ?_;refine GE_seq ?_;refine GE_block ?_;refine Zp 4 [2, 3] rfl ?_;refine GT_S rfl (V_index rfl rfl rfl Tryz.underlying87 sz_95 (k := k) rfl hkl (hL.own.isSome (k := k) hkl)) ?_;refine GT_S rfl (V_loadN (vs := [_, _, _]) rfl rfl ag_95 sz_95 rfl (CellsAt.own hL.own eSus_len hkl)) ?_;refine Zb rfl zc_95 fun b15 => ?_;refine ZS [_, _, _] [_, _, _] rfl rfl sz_95 rfl rfl rfl ?_;refine GT_nil ?_;refine ZP 7 [4, 5, 6] rfl ?_;refine Zv rfl ?_;refine Zf rfl fo_95_0 ?_;refine Zg rfl fo_91_0 rfl ag_3 rfl ?_;refine GT_buildSlice (z := [_]) rfl rfl rfl rfl rfl Tryz.underlying38 zc_3 sz_3 (by decide) rfl rfl (fun _ => GR_nil) (fun b35 => ?_);refine GT_append (enc := eI) (m := [(l.getD k default).x.plate]) rfl rfl rfl rfl rfl rfl rfl hO (fun w m => RdL.own' m eI_len) Tryz.underlying38 zc_3 sz_3 ⟨rfl, by decide⟩ by_3 ⟨by simp only [List.length_singleton]; omega, by simp only [List.length_singleton]; omega⟩ eI_len eI_one (fun _ _ _ _ => GR_nil) (fun A2' c2' I2' hO2 => ?_);refine Zw rfl ?_;refine GT_nil ?_;refine GE_inBlock ?_;refine Zs [12, 13, 25, 26, 27] rfl ?_;refine ZP 2 [1] rfl ?_;refine Za rfl (by omega) ?_;refine Zw rfl ?_;refine GT_nil ?_
        rw [e1] at hO2 ⊢; exact GE_to (ih (k + 1, A2', c2', I2') ⟨by dsimp only; omega, hO2⟩ (by dsimp only; omega)) ⟨rfl, rfl, rfl, rfl, rfl, trivial⟩ (HS.chunk HS.last)
      · obtain rfl : k = l.length := (by omega); rw [List.take_length] at hO ⊢
        refine GE_exit rfl ?_;refine Zq [12, 13] 5 [1] rfl rfl ?_;refine Zv rfl ?_;refine GT_callX rfl rfl rfl rfl rfl rfl rfl rfl rn_26 (fun w m => C_Compact m hO (by rw [List.length_map]; omega)) (fun _ _ => GR_nil) (fun I6 hO6 => ?_);refine Zr 3 rfl ?_;refine GT_nil ?_;refine GE_ret Tryz.func12 ⟨_, _, rfl, rfl, rfl⟩ (fun w hw => ?_)
        have e2 : cpt (l.map fun y => y.x.plate) = suspL p d side h := (by rw [hcl, ← hL.eq, List.map_map]; rfl); rw [e2] at hO6 ⊢; rw [he]; exact ⟨(A', c', I6), hO6, rfl, hw.chunk⟩
    · exact ⟨Nat.zero_le _, Own.nil⟩
  · have hcl : suspL p d side h = [] := if_neg he
    refine Ret_of (vs := [_, _, _, _]) hm none' Tryz.func12 rfl Tryz.ntmps12 rfl ?_
    dsimp only [slotsOf]
    refine Zp 2 [] rfl ?_;refine Zr 2 rfl ?_;refine GT_nil ?_;refine Zp 12 [4] rfl ?_;refine Zr 4 rfl ?_;refine Zc rfl rn_25 (fun w hw => C_left_err (hp.sh hw) hwf (hd.sh hw) hdf (hh.sh hw) he) GR_nil ?_;refine Zr 7 rfl ?_;refine GT_nil ?_;refine Zq [11, 12] 1 [] rfl rfl ?_;refine Zv rfl ?_;refine Zz ?_;refine Zp 3 [] rfl ?_;refine Zv rfl ?_;refine Zn rfl Tryz.underlying87 ?_;refine Zv rfl ?_;refine GT_nil ?_;refine GE_block ?_;refine GE_to (GE_loop (ι := Nat) (fun k => 0) (fun k => [(12, I (hearE p d side h)), (13, .slice none 0 0), (25, .slice none 0 0), (26, I 0), (27, I 0)]) (fun k => []) (fun k => k = 0) ?_ 0 ?_) ⟨rfl, rfl, rfl, rfl, rfl, trivial⟩ HS.nil
    · rintro k hk ih
      refine Zp 1 [] rfl ?_;refine GT_S rfl (V_lss rfl rfl rfl) ?_;refine Zz ?_;refine GE_cond rfl (fun h1 => ?_) (fun h1 => ?_)
      · exact absurd h1 (by decide)
      · refine GE_exit rfl ?_;refine Zq [12, 13] 5 [1] rfl rfl ?_;refine Zv rfl ?_;refine GT_callX rfl rfl rfl rfl rfl rfl rfl rfl rn_26 (fun w m => C_Compact (l := []) (I0 := []) m Own.nil (by decide)) (fun _ _ => GR_nil) (fun I6 hO6 => ?_);refine Zr 3 rfl ?_;refine GT_nil ?_;refine GE_ret Tryz.func12 ⟨_, _, rfl, rfl, rfl⟩ (fun w hw => ?_)
        rw [hcl]; exact ⟨(none, 0, []), Own.nil, rfl, hw.nil⟩
    · exact rfl
end
end Go.Proofs.YtncleikbggjmjaaGreatDoor.Lis
/- From the discs to the plate, in plain Lean. -/
namespace Go.Proofs.YtncleikbggjmjaaGreatDoor.Plg
open Go.Sx Go.Proofs Go.RowKit
open Lis
section
variable {p : List Lis.Plt} {br : Nat → Bool} {X : Nat} {N : Int} {d : List Lis.Dsc} {side : Int}
abbrev brD (br : Nat → Bool) (side : Int) (x : Lis.Dsc) : Bool := br (ofS x side).toNat
def hrsL (br : Nat → Bool) (side : Int) (d : List Lis.Dsc) : List Hrg := d.map fun x => ⟨x.ser, brD br side x⟩
theorem hrs_ok (hR : Room p d side) : hearE p d side (hrsL br side d) = 0 := by
  refine hearE_zero.2 ⟨hR, by unfold hrsL; rw [List.length_map]; exact hR.dl, fun y hy => ?_⟩
  unfold hrsL at hy
  obtain ⟨x, hx, rfl⟩ := List.mem_map.1 hy
  obtain ⟨i, hi, rfl⟩ := List.getElem_of_mem hx
  exact known_iff.2 ⟨i, hi, by simp [List.getD, hi]⟩
theorem left_iff (hR : Room p d side) {x : Sus} : x ∈ leftS p d side (hrsL br side d) ↔ x ∈ causS p d side ∧ ∀ i, i < d.length → x.has.getD i default = brD br side (d.getD i default) := by
  rw [leftS_mem]
  constructor
  · rintro ⟨h1, h2⟩
    refine ⟨h1, fun i hi => ?_⟩
    have := h2 ⟨(d.getD i default).ser, brD br side (d.getD i default)⟩ (List.mem_map.2 ⟨d.getD i default, by rw [show d.getD i default = d[i] by simp [List.getD, hi]]; exact List.getElem_mem hi, rfl⟩)
    unfold agree1 at this
    rw [idxS_of hR.dsok hi] at this
    simpa using this
  · rintro ⟨h1, h2⟩
    refine ⟨h1, fun y hy => ?_⟩
    obtain ⟨z, hz, rfl⟩ := List.mem_map.1 hy
    obtain ⟨i, hi, rfl⟩ := List.getElem_of_mem hz
    have e : d[i] = d.getD i default := by simp [List.getD, hi]
    unfold agree1
    rw [e, idxS_of hR.dsok hi, h2 i hi]
    simp
theorem true_cause (hR : Room p d side) (hX : X < p.length) (hB : Bears p br X N) {i0 : Nat} (hi0 : i0 < d.length) (hb0 : brD br side (d.getD i0 default) = true) :
    ∃ x, x ∈ leftS p d side (hrsL br side d) ∧ x.plate = X := by
  by_cases h3 : (p.getD X default).kind = 3
  · have hown : ∀ i, i < d.length → (brD br side (d.getD i default) = true ↔ ofS (d.getD i default) side = X) := fun i hi => by
      have hs := ofS_in (side := side) hR.dsok hi
      constructor
      · intro h
        have := bears_own hR.plok hX h3 hB p.length _ (by omega) (by omega) h
        omega
      · intro e
        show br (ofS (d.getD i default) side).toNat = true
        rw [e, Int.toNat_natCast]
        exact (hB X hX).2 (.inl rfl)
    obtain ⟨k, hk, hkm⟩ := least_ex (P := fun i => i < d.length ∧ brD br side (d.getD i default) = true) ⟨hi0, hb0⟩
    refine ⟨⟨X, (d.getD k default).ser, fromK (under p d side X 0) k⟩, (left_iff hR).2 ⟨causS_mem.2 (.inl ⟨X, hX, plate1_mem.2 (.inl ⟨h3, k, hk.1, (own_iff hR h3 hX hk.1).2 ((hown k hk.1).1 hk.2), rfl⟩)⟩), fun i hi => ?_⟩, rfl⟩
    dsimp only
    rw [fromK_get]
    by_cases hik : i < k
    · rw [if_pos hik]
      have := hkm i hik
      cases e : brD br side (d.getD i default) with
      | false => rfl
      | true => exact absurd ⟨hi, e⟩ this
    · rw [if_neg hik, Bool.eq_iff_iff, own_iff hR h3 hX hi, hown i hi]
  · have hne : ∀ i, i < d.length → (ofS (d.getD i default) side).toNat ≠ X := fun i hi e => by
      have hs := ofS_in (side := side) hR.dsok hi
      rw [e] at hs; exact h3 hs.2.2
    have hs0 := ofS_in (side := side) hR.dsok hi0
    obtain ⟨c, hc⟩ := bears_child hR.plok hB p.length _ (by omega) (by omega) (hne i0 hi0) hb0
    obtain ⟨k, ⟨hk1, hk2, hk3⟩, hkm⟩ := least_ex (P := fun k : Nat => k < p.length ∧ (p.getD k default).par = X ∧ N ≤ k) hc
    have hXk : X < k := by have := Room.plate hR.plok hk1; omega
    refine ⟨⟨X, k, under p d side X k⟩, (left_iff hR).2 ⟨causS_mem.2 (.inl ⟨X, hX, plate1_mem.2 (.inr ⟨h3, k, hk1, hXk, hk2, rfl⟩)⟩), fun i hi => ?_⟩, rfl⟩
    dsimp only
    have hs := ofS_in (side := side) hR.dsok hi
    rw [under_get' hi, Bool.eq_iff_iff, under1_iff]
    have hcb := climb_br (frm := k) hR.plok hB (fun j hj hpj => ⟨fun e => by omega, fun e => by
      rcases Nat.lt_or_ge j k with h | h
      · exact absurd ⟨hj, hpj, e⟩ (hkm j h)
      · omega⟩) p.length (ofS (d.getD i default) side).toNat p.length (by omega) (by omega) (hne i hi)
    rw [show (((ofS (d.getD i default) side).toNat : Nat) : Int) = ofS (d.getD i default) side by omega] at hcb
    exact hcb
end
end Go.Proofs.YtncleikbggjmjaaGreatDoor.Plg
