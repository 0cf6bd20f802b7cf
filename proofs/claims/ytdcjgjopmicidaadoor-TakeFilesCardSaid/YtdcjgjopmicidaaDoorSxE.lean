/-
  Old blocks.
-/
import Derived.Test.YtdcjgjopmicidaaDoorSxD
namespace Go.Sx
open Go.RowKit

/-- block g holds the cells cs -/
def BlkAt (w : World) (g : Nat) (cs : List Value) (t : TypeId) : Prop := w.heap[g]? = some (blk cs t)
theorem BlkAt.cell {w : World} {g o : Nat} {cs : List Value} {t : TypeId} {v : Value} (h : BlkAt w g cs t) (hv : cs[o]? = some v) : w.cell? ⟨g, o, none⟩ = some v := by
  unfold BlkAt at h
  simp [World.cell?, h, hv]
theorem BlkAt.sh {w0 w : World} {g : Nat} {cs : List Value} {t : TypeId} {H : Items} (h : BlkAt w0 g cs t) (m : SH w0 none' H w) : BlkAt w g cs t := by
  unfold BlkAt at h ⊢
  rw [m.old g (Array.getElem?_eq_some_iff.1 h).1 (fun e => e)]; exact h
theorem BlkAt.of {w0 w : World} {M : Nat → Prop} {H : Items} {g : Nat} {cs : List Value} {t : TypeId} (m : SH w0 M H w) [h : HFind g H (blk cs t)] : BlkAt w g cs t := (m.item _ h.mem).2

theorem CellsAt.blk {C : Cx} {H : Items} {g : Nat} {cs : List Value} {t : TypeId} (h : BlkAt C.w0 g cs t) (hM : ¬ C.M g) : CellsAt C H ⟨g, 0, none⟩ cs := by
  intro i v hi
  rw [add_lit]
  exact CellAt.old (by simpa using h.cell hi) hM

/-- what lies in a block gets a name -/
theorem GE_gen {C : Cx} {L : Slots} {D : List Deferred} {k : List Item} {l : Nat} {o : Obj} {H H1 : Items} [ht : HTake l H o H1] (h : ∀ ob, ob = o → GE C L D ((l, ob) :: H1) k) : GE C L D H k :=
  fun a w s m => h o rfl a w s (m.perm ht.perm)
theorem YieldTo.chunk2 {P : Program} {w0 : World} {M : Nat → Prop} {l : Nat} {args : List Value} {H I J G G' : Items} {R : Value → Items → Prop} (h : YieldTo P w0 M l args (I ++ (J ++ G)) R) [hc : HChunk I H G'] [hc2 : HChunk J G' G] : YieldTo P w0 M l args H R := fun w m => h w (m.perm (hc.perm.trans (hc2.perm.append_left I)))
theorem YieldTo.chunkR {P : Program} {w0 : World} {M : Nat → Prop} {l g : Nat} {o : Obj} {args : List Value} {H I J K G G1 G2 G3 : Items} {R : Value → Items → Prop} (h : YieldTo P w0 M l args (I ++ (J ++ ((g, o) :: (K ++ G)))) R) [hc : HChunk I H G1] [hc2 : HChunk J G1 G2] [ht : HTake g G2 o G3] [hc3 : HChunk K G3 G] : YieldTo P w0 M l args H R := fun w m =>
  h w (m.perm (hc.perm.trans ((hc2.perm.trans ((ht.perm.trans (hc3.perm.cons _)).append_left J)).append_left I)))
end Go.Sx
