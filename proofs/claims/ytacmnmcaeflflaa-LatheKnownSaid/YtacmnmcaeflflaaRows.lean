/-
  No cell of these rows narrows 'for every input' (looked for: loops, veiled, ifaces, maps, wideKeys, modest, calm, conditions, laid).
  DERIVED. THE GIVEN ROWS OF THIS SEAT. 12 by the template 'for every input the law returns true; each argument reads behind the call as it read before'; 0 by the template 'total and deterministic' (their statements: YtacmnmcaeflflaaTotals.lean).
  GIVEN WITH THE SEED: the statements are not yours to turn. If you find one false, say at which input.
  Laid BY PROGRAM, IN A SANDBOX (cutbox-rows.mjs): the forced cells as the released guide's own fill.sh prints them over the translation a5a8216a64796924… (all of the seat's roots in one cut). By AI agents, Wed Nov 11 2026. No macro, syntax, notation, axiom, sorry.
-/
import Derived.Test.YtacmnmcaeflflaaChecked
import GoSem.Claim
import GoSem.ClaimJoined
import GoSem.ClaimMapViews
import Derived.JoinedTies
import Derived.KernelRfl
namespace Go.Proofs.Ytacmnmcaeflflaa
/- THE CELL 'sum', in the pinned program and in every row, IS THE sha256 OF THE DUMP (.gsa) THAT YtacmnmcaeflflaaProg.lean LOADS. Nothing in Lean hashes anything: it is a label: what it is worth is what the hold of that sum in a sandbox is worth. -/
noncomputable def Try.pinned : Pinned := { name := "ytacmnmcaeflflaa", sum := "a5a8216a64796924d378ad284526c3a0d142ccd202cfb3db7e4ac096193bd922", checked := Try.checked }
namespace Rows
def none {H : Type} : Left H := { results := [], args := [] }

/-- 'deadwaxlaw05.LatheCuts': WHATEVER THE INPUT: true; the input reads as it did. -/
def latheCutsSpec : ChangeSpec := { name := "latheCuts", fn := fun _ => fun
  | [d1, d2, d3] => { results := [.lit (.bool true)], args := [d1, d2, d3] }
  | _ => none }
def latheCutsRow : OpenClaim := { program := "ytacmnmcaeflflaa", sum := "a5a8216a64796924d378ad284526c3a0d142ccd202cfb3db7e4ac096193bd922", func := "deadwax/deadwaxlaw05.LatheCuts", spec := "latheCuts", unfollowed := true, recurses := true, apart := false }
def LatheCutsSaid : Prop := latheCutsRow.holds Try.pinned (OpenSpec.ofChange latheCutsSpec)

/-- ITS FALSE NEIGHBOUR: 'it returns false'. Refute it at one input. -/
def latheCutsWrong : ChangeSpec := { name := "latheCuts", fn := fun _ => fun
  | [d1, d2, d3] => { results := [.lit (.bool false)], args := [d1, d2, d3] }
  | _ => none }
def LatheCutsWrongFalsely : Prop := latheCutsRow.holds Try.pinned (OpenSpec.ofChange latheCutsWrong)

/-- 'deadwaxlaw05.LatheOutermost': WHATEVER THE INPUT: true; the input reads as it did. -/
def latheOutermostSpec : ChangeSpec := { name := "latheOutermost", fn := fun _ => fun
  | [d1, d2, d3] => { results := [.lit (.bool true)], args := [d1, d2, d3] }
  | _ => none }
def latheOutermostRow : OpenClaim := { program := "ytacmnmcaeflflaa", sum := "a5a8216a64796924d378ad284526c3a0d142ccd202cfb3db7e4ac096193bd922", func := "deadwax/deadwaxlaw05.LatheOutermost", spec := "latheOutermost", unfollowed := true, recurses := true, apart := false }
def LatheOutermostSaid : Prop := latheOutermostRow.holds Try.pinned (OpenSpec.ofChange latheOutermostSpec)

/-- ITS FALSE NEIGHBOUR: 'it returns false'. Refute it at one input. -/
def latheOutermostWrong : ChangeSpec := { name := "latheOutermost", fn := fun _ => fun
  | [d1, d2, d3] => { results := [.lit (.bool false)], args := [d1, d2, d3] }
  | _ => none }
def LatheOutermostWrongFalsely : Prop := latheOutermostRow.holds Try.pinned (OpenSpec.ofChange latheOutermostWrong)

/-- 'deadwaxlaw05.LatheNarrower': WHATEVER THE INPUT: true; the input reads as it did. -/
def latheNarrowerSpec : ChangeSpec := { name := "latheNarrower", fn := fun _ => fun
  | [d1, d2, d3] => { results := [.lit (.bool true)], args := [d1, d2, d3] }
  | _ => none }
def latheNarrowerRow : OpenClaim := { program := "ytacmnmcaeflflaa", sum := "a5a8216a64796924d378ad284526c3a0d142ccd202cfb3db7e4ac096193bd922", func := "deadwax/deadwaxlaw05.LatheNarrower", spec := "latheNarrower", unfollowed := true, recurses := true, apart := false }
def LatheNarrowerSaid : Prop := latheNarrowerRow.holds Try.pinned (OpenSpec.ofChange latheNarrowerSpec)

/-- ITS FALSE NEIGHBOUR: 'it returns false'. Refute it at one input. -/
def latheNarrowerWrong : ChangeSpec := { name := "latheNarrower", fn := fun _ => fun
  | [d1, d2, d3] => { results := [.lit (.bool false)], args := [d1, d2, d3] }
  | _ => none }
def LatheNarrowerWrongFalsely : Prop := latheNarrowerRow.holds Try.pinned (OpenSpec.ofChange latheNarrowerWrong)

/-- 'deadwaxlaw05.LatheMoved': WHATEVER THE INPUT: true; the input reads as it did. -/
def latheMovedSpec : ChangeSpec := { name := "latheMoved", fn := fun _ => fun
  | [d1, d2, d3, d4] => { results := [.lit (.bool true)], args := [d1, d2, d3, d4] }
  | _ => none }
def latheMovedRow : OpenClaim := { program := "ytacmnmcaeflflaa", sum := "a5a8216a64796924d378ad284526c3a0d142ccd202cfb3db7e4ac096193bd922", func := "deadwax/deadwaxlaw05.LatheMoved", spec := "latheMoved", unfollowed := true, recurses := true, apart := false }
def LatheMovedSaid : Prop := latheMovedRow.holds Try.pinned (OpenSpec.ofChange latheMovedSpec)

/-- ITS FALSE NEIGHBOUR: 'it returns false'. Refute it at one input. -/
def latheMovedWrong : ChangeSpec := { name := "latheMoved", fn := fun _ => fun
  | [d1, d2, d3, d4] => { results := [.lit (.bool false)], args := [d1, d2, d3, d4] }
  | _ => none }
def LatheMovedWrongFalsely : Prop := latheMovedRow.holds Try.pinned (OpenSpec.ofChange latheMovedWrong)

/-- 'deadwaxlaw05.LatheLocked': WHATEVER THE INPUT: true; the input reads as it did. -/
def latheLockedSpec : ChangeSpec := { name := "latheLocked", fn := fun _ => fun
  | [d1, d2, d3, d4, d5] => { results := [.lit (.bool true)], args := [d1, d2, d3, d4, d5] }
  | _ => none }
def latheLockedRow : OpenClaim := { program := "ytacmnmcaeflflaa", sum := "a5a8216a64796924d378ad284526c3a0d142ccd202cfb3db7e4ac096193bd922", func := "deadwax/deadwaxlaw05.LatheLocked", spec := "latheLocked", unfollowed := true, recurses := true, apart := false }
def LatheLockedSaid : Prop := latheLockedRow.holds Try.pinned (OpenSpec.ofChange latheLockedSpec)

/-- ITS FALSE NEIGHBOUR: 'it returns false'. Refute it at one input. -/
def latheLockedWrong : ChangeSpec := { name := "latheLocked", fn := fun _ => fun
  | [d1, d2, d3, d4, d5] => { results := [.lit (.bool false)], args := [d1, d2, d3, d4, d5] }
  | _ => none }
def LatheLockedWrongFalsely : Prop := latheLockedRow.holds Try.pinned (OpenSpec.ofChange latheLockedWrong)

/-- 'deadwaxlaw05.LatheEnds': WHATEVER THE INPUT: true; the input reads as it did. -/
def latheEndsSpec : ChangeSpec := { name := "latheEnds", fn := fun _ => fun
  | [d1, d2, d3, d4] => { results := [.lit (.bool true)], args := [d1, d2, d3, d4] }
  | _ => none }
def latheEndsRow : OpenClaim := { program := "ytacmnmcaeflflaa", sum := "a5a8216a64796924d378ad284526c3a0d142ccd202cfb3db7e4ac096193bd922", func := "deadwax/deadwaxlaw05.LatheEnds", spec := "latheEnds", unfollowed := true, recurses := true, apart := false }
def LatheEndsSaid : Prop := latheEndsRow.holds Try.pinned (OpenSpec.ofChange latheEndsSpec)

/-- ITS FALSE NEIGHBOUR: 'it returns false'. Refute it at one input. -/
def latheEndsWrong : ChangeSpec := { name := "latheEnds", fn := fun _ => fun
  | [d1, d2, d3, d4] => { results := [.lit (.bool false)], args := [d1, d2, d3, d4] }
  | _ => none }
def LatheEndsWrongFalsely : Prop := latheEndsRow.holds Try.pinned (OpenSpec.ofChange latheEndsWrong)

/-- 'deadwaxlaw05.LathePrefix': WHATEVER THE INPUT: true; the input reads as it did. -/
def lathePrefixSpec : ChangeSpec := { name := "lathePrefix", fn := fun _ => fun
  | [d1, d2, d3] => { results := [.lit (.bool true)], args := [d1, d2, d3] }
  | _ => none }
def lathePrefixRow : OpenClaim := { program := "ytacmnmcaeflflaa", sum := "a5a8216a64796924d378ad284526c3a0d142ccd202cfb3db7e4ac096193bd922", func := "deadwax/deadwaxlaw05.LathePrefix", spec := "lathePrefix", unfollowed := true, recurses := true, apart := false }
def LathePrefixSaid : Prop := lathePrefixRow.holds Try.pinned (OpenSpec.ofChange lathePrefixSpec)

/-- ITS FALSE NEIGHBOUR: 'it returns false'. Refute it at one input. -/
def lathePrefixWrong : ChangeSpec := { name := "lathePrefix", fn := fun _ => fun
  | [d1, d2, d3] => { results := [.lit (.bool false)], args := [d1, d2, d3] }
  | _ => none }
def LathePrefixWrongFalsely : Prop := lathePrefixRow.holds Try.pinned (OpenSpec.ofChange lathePrefixWrong)

/-- 'deadwaxlaw05.LatheLands': WHATEVER THE INPUT: true; the input reads as it did. -/
def latheLandsSpec : ChangeSpec := { name := "latheLands", fn := fun _ => fun
  | [d1, d2, d3, d4] => { results := [.lit (.bool true)], args := [d1, d2, d3, d4] }
  | _ => none }
def latheLandsRow : OpenClaim := { program := "ytacmnmcaeflflaa", sum := "a5a8216a64796924d378ad284526c3a0d142ccd202cfb3db7e4ac096193bd922", func := "deadwax/deadwaxlaw05.LatheLands", spec := "latheLands", unfollowed := true, recurses := true, apart := false }
def LatheLandsSaid : Prop := latheLandsRow.holds Try.pinned (OpenSpec.ofChange latheLandsSpec)

/-- ITS FALSE NEIGHBOUR: 'it returns false'. Refute it at one input. -/
def latheLandsWrong : ChangeSpec := { name := "latheLands", fn := fun _ => fun
  | [d1, d2, d3, d4] => { results := [.lit (.bool false)], args := [d1, d2, d3, d4] }
  | _ => none }
def LatheLandsWrongFalsely : Prop := latheLandsRow.holds Try.pinned (OpenSpec.ofChange latheLandsWrong)

/-- 'deadwaxlaw05.LatheApart': WHATEVER THE INPUT: true; the input reads as it did. -/
def latheApartSpec : ChangeSpec := { name := "latheApart", fn := fun _ => fun
  | [d1, d2] => { results := [.lit (.bool true)], args := [d1, d2] }
  | _ => none }
def latheApartRow : OpenClaim := { program := "ytacmnmcaeflflaa", sum := "a5a8216a64796924d378ad284526c3a0d142ccd202cfb3db7e4ac096193bd922", func := "deadwax/deadwaxlaw05.LatheApart", spec := "latheApart", unfollowed := true, recurses := true, apart := false }
def LatheApartSaid : Prop := latheApartRow.holds Try.pinned (OpenSpec.ofChange latheApartSpec)

/-- ITS FALSE NEIGHBOUR: 'it returns false'. Refute it at one input. -/
def latheApartWrong : ChangeSpec := { name := "latheApart", fn := fun _ => fun
  | [d1, d2] => { results := [.lit (.bool false)], args := [d1, d2] }
  | _ => none }
def LatheApartWrongFalsely : Prop := latheApartRow.holds Try.pinned (OpenSpec.ofChange latheApartWrong)

/-- 'deadwaxlaw05.LatheRefuses': WHATEVER THE INPUT: true; the input reads as it did. -/
def latheRefusesSpec : ChangeSpec := { name := "latheRefuses", fn := fun _ => fun
  | [d1, d2, d3] => { results := [.lit (.bool true)], args := [d1, d2, d3] }
  | _ => none }
def latheRefusesRow : OpenClaim := { program := "ytacmnmcaeflflaa", sum := "a5a8216a64796924d378ad284526c3a0d142ccd202cfb3db7e4ac096193bd922", func := "deadwax/deadwaxlaw05.LatheRefuses", spec := "latheRefuses", unfollowed := true, recurses := true, apart := false }
def LatheRefusesSaid : Prop := latheRefusesRow.holds Try.pinned (OpenSpec.ofChange latheRefusesSpec)

/-- ITS FALSE NEIGHBOUR: 'it returns false'. Refute it at one input. -/
def latheRefusesWrong : ChangeSpec := { name := "latheRefuses", fn := fun _ => fun
  | [d1, d2, d3] => { results := [.lit (.bool false)], args := [d1, d2, d3] }
  | _ => none }
def LatheRefusesWrongFalsely : Prop := latheRefusesRow.holds Try.pinned (OpenSpec.ofChange latheRefusesWrong)

/-- 'deadwaxlaw05.LatheRefused': WHATEVER THE INPUT: true; the input reads as it did. -/
def latheRefusedSpec : ChangeSpec := { name := "latheRefused", fn := fun _ => fun
  | [d1, d2, d3, d4, d5] => { results := [.lit (.bool true)], args := [d1, d2, d3, d4, d5] }
  | _ => none }
def latheRefusedRow : OpenClaim := { program := "ytacmnmcaeflflaa", sum := "a5a8216a64796924d378ad284526c3a0d142ccd202cfb3db7e4ac096193bd922", func := "deadwax/deadwaxlaw05.LatheRefused", spec := "latheRefused", unfollowed := true, recurses := true, apart := false }
def LatheRefusedSaid : Prop := latheRefusedRow.holds Try.pinned (OpenSpec.ofChange latheRefusedSpec)

/-- ITS FALSE NEIGHBOUR: 'it returns false'. Refute it at one input. -/
def latheRefusedWrong : ChangeSpec := { name := "latheRefused", fn := fun _ => fun
  | [d1, d2, d3, d4, d5] => { results := [.lit (.bool false)], args := [d1, d2, d3, d4, d5] }
  | _ => none }
def LatheRefusedWrongFalsely : Prop := latheRefusedRow.holds Try.pinned (OpenSpec.ofChange latheRefusedWrong)

/-- 'deadwaxlaw05.LatheKnown': WHATEVER THE INPUT: true; the input reads as it did. -/
def latheKnownSpec : ChangeSpec := { name := "latheKnown", fn := fun _ => fun
  | [] => { results := [.lit (.bool true)], args := [] }
  | _ => none }
def latheKnownRow : OpenClaim := { program := "ytacmnmcaeflflaa", sum := "a5a8216a64796924d378ad284526c3a0d142ccd202cfb3db7e4ac096193bd922", func := "deadwax/deadwaxlaw05.LatheKnown", spec := "latheKnown", unfollowed := true, recurses := true, apart := false }
def LatheKnownSaid : Prop := latheKnownRow.holds Try.pinned (OpenSpec.ofChange latheKnownSpec)

/-- ITS FALSE NEIGHBOUR: 'it returns false'. Refute it at one input. -/
def latheKnownWrong : ChangeSpec := { name := "latheKnown", fn := fun _ => fun
  | [] => { results := [.lit (.bool false)], args := [] }
  | _ => none }
def LatheKnownWrongFalsely : Prop := latheKnownRow.holds Try.pinned (OpenSpec.ofChange latheKnownWrong)

/- THE SECOND FORM. 'bulk': how many values and letters a reading holds, each counted each time it is reached (what is shared counts as often as it is met; a slice's spare places count too). A statement '..UptoSaid' is the law's where the arguments, and the package variables that the reading takes, are together of bulk at most 1048576: NARROWER than '..Said'. Prove '..Said' where nothing that the law and all that it calls make is longer than what came in: it says more and counts as full. Else prove '..UptoSaid'. A law counts once. -/
mutual
def uptoBulk {H : Type} : DataW H → Nat
  | .lit (.string bytes) => bytes.length + 1
  | .lit _ => 1
  | .nil => 1
  | .ptr d => uptoBulk d + 1
  | .slice elems spare => uptoBulkAll elems + uptoBulkAll spare + 1
  | .agg parts => uptoBulkAll parts + 1
  | .iface _ d => uptoBulk d + 1
  | .map entries => uptoBulkEntries entries + 1
  | .held _ => 1
def uptoBulkAll {H : Type} : List (DataW H) → Nat
  | [] => 0
  | d :: r => uptoBulk d + uptoBulkAll r
def uptoBulkEntries {H : Type} : List (Lit × DataW H) → Nat
  | [] => 0
  | x :: r => uptoBulkEntry x + uptoBulkEntries r
def uptoBulkEntry {H : Type} : Lit × DataW H → Nat
  | (.string bytes, d) => bytes.length + uptoBulk d + 1
  | (_, d) => uptoBulk d + 1
 end
def uptoSmall : (H : Type) → List (DataW H) → Bool := fun _ ds => decide (uptoBulkAll ds ≤ 1048576)
def OpenSpec.upto (s : _root_.Go.ChangeSpec) : _root_.Go.OpenSpec := { _root_.Go.OpenSpec.ofChange s with cond := some uptoSmall }

/-- 'deadwaxlaw05.LatheCuts', WHERE WHAT IT READS IS OF BULK AT MOST 1048576: true; the input reads as it did. -/
def latheCutsUptoRow : OpenClaim := { program := "ytacmnmcaeflflaa", sum := "a5a8216a64796924d378ad284526c3a0d142ccd202cfb3db7e4ac096193bd922", func := "deadwax/deadwaxlaw05.LatheCuts", spec := "latheCuts", unfollowed := true, recurses := true, apart := false, narrowed := true }
def LatheCutsUptoSaid : Prop := latheCutsUptoRow.holds Try.pinned (OpenSpec.upto latheCutsSpec)

/-- 'deadwaxlaw05.LatheOutermost', WHERE WHAT IT READS IS OF BULK AT MOST 1048576: true; the input reads as it did. -/
def latheOutermostUptoRow : OpenClaim := { program := "ytacmnmcaeflflaa", sum := "a5a8216a64796924d378ad284526c3a0d142ccd202cfb3db7e4ac096193bd922", func := "deadwax/deadwaxlaw05.LatheOutermost", spec := "latheOutermost", unfollowed := true, recurses := true, apart := false, narrowed := true }
def LatheOutermostUptoSaid : Prop := latheOutermostUptoRow.holds Try.pinned (OpenSpec.upto latheOutermostSpec)

/-- 'deadwaxlaw05.LatheNarrower', WHERE WHAT IT READS IS OF BULK AT MOST 1048576: true; the input reads as it did. -/
def latheNarrowerUptoRow : OpenClaim := { program := "ytacmnmcaeflflaa", sum := "a5a8216a64796924d378ad284526c3a0d142ccd202cfb3db7e4ac096193bd922", func := "deadwax/deadwaxlaw05.LatheNarrower", spec := "latheNarrower", unfollowed := true, recurses := true, apart := false, narrowed := true }
def LatheNarrowerUptoSaid : Prop := latheNarrowerUptoRow.holds Try.pinned (OpenSpec.upto latheNarrowerSpec)

/-- 'deadwaxlaw05.LatheMoved', WHERE WHAT IT READS IS OF BULK AT MOST 1048576: true; the input reads as it did. -/
def latheMovedUptoRow : OpenClaim := { program := "ytacmnmcaeflflaa", sum := "a5a8216a64796924d378ad284526c3a0d142ccd202cfb3db7e4ac096193bd922", func := "deadwax/deadwaxlaw05.LatheMoved", spec := "latheMoved", unfollowed := true, recurses := true, apart := false, narrowed := true }
def LatheMovedUptoSaid : Prop := latheMovedUptoRow.holds Try.pinned (OpenSpec.upto latheMovedSpec)

/-- 'deadwaxlaw05.LatheLocked', WHERE WHAT IT READS IS OF BULK AT MOST 1048576: true; the input reads as it did. -/
def latheLockedUptoRow : OpenClaim := { program := "ytacmnmcaeflflaa", sum := "a5a8216a64796924d378ad284526c3a0d142ccd202cfb3db7e4ac096193bd922", func := "deadwax/deadwaxlaw05.LatheLocked", spec := "latheLocked", unfollowed := true, recurses := true, apart := false, narrowed := true }
def LatheLockedUptoSaid : Prop := latheLockedUptoRow.holds Try.pinned (OpenSpec.upto latheLockedSpec)

/-- 'deadwaxlaw05.LatheEnds', WHERE WHAT IT READS IS OF BULK AT MOST 1048576: true; the input reads as it did. -/
def latheEndsUptoRow : OpenClaim := { program := "ytacmnmcaeflflaa", sum := "a5a8216a64796924d378ad284526c3a0d142ccd202cfb3db7e4ac096193bd922", func := "deadwax/deadwaxlaw05.LatheEnds", spec := "latheEnds", unfollowed := true, recurses := true, apart := false, narrowed := true }
def LatheEndsUptoSaid : Prop := latheEndsUptoRow.holds Try.pinned (OpenSpec.upto latheEndsSpec)

/-- 'deadwaxlaw05.LathePrefix', WHERE WHAT IT READS IS OF BULK AT MOST 1048576: true; the input reads as it did. -/
def lathePrefixUptoRow : OpenClaim := { program := "ytacmnmcaeflflaa", sum := "a5a8216a64796924d378ad284526c3a0d142ccd202cfb3db7e4ac096193bd922", func := "deadwax/deadwaxlaw05.LathePrefix", spec := "lathePrefix", unfollowed := true, recurses := true, apart := false, narrowed := true }
def LathePrefixUptoSaid : Prop := lathePrefixUptoRow.holds Try.pinned (OpenSpec.upto lathePrefixSpec)

/-- 'deadwaxlaw05.LatheLands', WHERE WHAT IT READS IS OF BULK AT MOST 1048576: true; the input reads as it did. -/
def latheLandsUptoRow : OpenClaim := { program := "ytacmnmcaeflflaa", sum := "a5a8216a64796924d378ad284526c3a0d142ccd202cfb3db7e4ac096193bd922", func := "deadwax/deadwaxlaw05.LatheLands", spec := "latheLands", unfollowed := true, recurses := true, apart := false, narrowed := true }
def LatheLandsUptoSaid : Prop := latheLandsUptoRow.holds Try.pinned (OpenSpec.upto latheLandsSpec)

/-- 'deadwaxlaw05.LatheApart', WHERE WHAT IT READS IS OF BULK AT MOST 1048576: true; the input reads as it did. -/
def latheApartUptoRow : OpenClaim := { program := "ytacmnmcaeflflaa", sum := "a5a8216a64796924d378ad284526c3a0d142ccd202cfb3db7e4ac096193bd922", func := "deadwax/deadwaxlaw05.LatheApart", spec := "latheApart", unfollowed := true, recurses := true, apart := false, narrowed := true }
def LatheApartUptoSaid : Prop := latheApartUptoRow.holds Try.pinned (OpenSpec.upto latheApartSpec)

/-- 'deadwaxlaw05.LatheRefuses', WHERE WHAT IT READS IS OF BULK AT MOST 1048576: true; the input reads as it did. -/
def latheRefusesUptoRow : OpenClaim := { program := "ytacmnmcaeflflaa", sum := "a5a8216a64796924d378ad284526c3a0d142ccd202cfb3db7e4ac096193bd922", func := "deadwax/deadwaxlaw05.LatheRefuses", spec := "latheRefuses", unfollowed := true, recurses := true, apart := false, narrowed := true }
def LatheRefusesUptoSaid : Prop := latheRefusesUptoRow.holds Try.pinned (OpenSpec.upto latheRefusesSpec)

/-- 'deadwaxlaw05.LatheRefused', WHERE WHAT IT READS IS OF BULK AT MOST 1048576: true; the input reads as it did. -/
def latheRefusedUptoRow : OpenClaim := { program := "ytacmnmcaeflflaa", sum := "a5a8216a64796924d378ad284526c3a0d142ccd202cfb3db7e4ac096193bd922", func := "deadwax/deadwaxlaw05.LatheRefused", spec := "latheRefused", unfollowed := true, recurses := true, apart := false, narrowed := true }
def LatheRefusedUptoSaid : Prop := latheRefusedUptoRow.holds Try.pinned (OpenSpec.upto latheRefusedSpec)

/-- 'deadwaxlaw05.LatheKnown', WHERE WHAT IT READS IS OF BULK AT MOST 1048576: true; the input reads as it did. -/
def latheKnownUptoRow : OpenClaim := { program := "ytacmnmcaeflflaa", sum := "a5a8216a64796924d378ad284526c3a0d142ccd202cfb3db7e4ac096193bd922", func := "deadwax/deadwaxlaw05.LatheKnown", spec := "latheKnown", unfollowed := true, recurses := true, apart := false, narrowed := true }
def LatheKnownUptoSaid : Prop := latheKnownUptoRow.holds Try.pinned (OpenSpec.upto latheKnownSpec)

end Rows
end Go.Proofs.Ytacmnmcaeflflaa
