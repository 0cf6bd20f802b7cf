/-
  No cell of these rows narrows 'for every input' (looked for: loops, veiled, ifaces, maps, wideKeys, modest, calm, conditions, laid).
  DERIVED. THE GIVEN ROWS OF THIS SEAT. 8 by the template 'for every input the law returns true; each argument reads behind the call as it read before'; 0 by the template 'total and deterministic' (their statements: YtfaggcmcfhljpaaTotals.lean).
  GIVEN WITH THE SEED: the statements are not yours to turn. If you find one false, say at which input.
  Laid BY PROGRAM, IN A SANDBOX (cutbox-rows.mjs): the forced cells as the released guide's own fill.sh prints them over the translation 96bcf77779755d74… (all of the seat's roots in one cut). By AI agents, Wed Nov 11 2026. No macro, syntax, notation, axiom, sorry.
-/
import Derived.Test.YtfaggcmcfhljpaaChecked
import GoSem.Claim
import GoSem.ClaimJoined
import GoSem.ClaimMapViews
import Derived.JoinedTies
import Derived.KernelRfl
namespace Go.Proofs.Ytfaggcmcfhljpaa
/- THE CELL 'sum', in the pinned program and in every row, IS THE sha256 OF THE DUMP (.gsa) THAT YtfaggcmcfhljpaaProg.lean LOADS. Nothing in Lean hashes anything: it is a label: what it is worth is what the hold of that sum in a sandbox is worth. -/
noncomputable def Try.pinned : Pinned := { name := "ytfaggcmcfhljpaa", sum := "96bcf77779755d74b9d25b53032313027a7cb9b5eb4cc2ce1202f6a0dda15045", checked := Try.checked }
namespace Rows
def none {H : Type} : Left H := { results := [], args := [] }

/-- 'deadwaxlaw09.ListenLeast': WHATEVER THE INPUT: true; the input reads as it did. -/
def listenLeastSpec : ChangeSpec := { name := "listenLeast", fn := fun _ => fun
  | [d1, d2, d3, d4, d5, d6, d7] => { results := [.lit (.bool true)], args := [d1, d2, d3, d4, d5, d6, d7] }
  | _ => none }
def listenLeastRow : OpenClaim := { program := "ytfaggcmcfhljpaa", sum := "96bcf77779755d74b9d25b53032313027a7cb9b5eb4cc2ce1202f6a0dda15045", func := "deadwax/deadwaxlaw09.ListenLeast", spec := "listenLeast", unfollowed := true, recurses := true, apart := false }
def ListenLeastSaid : Prop := listenLeastRow.holds Try.pinned (OpenSpec.ofChange listenLeastSpec)

/-- ITS FALSE NEIGHBOUR: 'it returns false'. Refute it at one input. -/
def listenLeastWrong : ChangeSpec := { name := "listenLeast", fn := fun _ => fun
  | [d1, d2, d3, d4, d5, d6, d7] => { results := [.lit (.bool false)], args := [d1, d2, d3, d4, d5, d6, d7] }
  | _ => none }
def ListenLeastWrongFalsely : Prop := listenLeastRow.holds Try.pinned (OpenSpec.ofChange listenLeastWrong)

/-- 'deadwaxlaw09.ListenCounts': WHATEVER THE INPUT: true; the input reads as it did. -/
def listenCountsSpec : ChangeSpec := { name := "listenCounts", fn := fun _ => fun
  | [d1, d2, d3, d4] => { results := [.lit (.bool true)], args := [d1, d2, d3, d4] }
  | _ => none }
def listenCountsRow : OpenClaim := { program := "ytfaggcmcfhljpaa", sum := "96bcf77779755d74b9d25b53032313027a7cb9b5eb4cc2ce1202f6a0dda15045", func := "deadwax/deadwaxlaw09.ListenCounts", spec := "listenCounts", unfollowed := true, recurses := true, apart := false }
def ListenCountsSaid : Prop := listenCountsRow.holds Try.pinned (OpenSpec.ofChange listenCountsSpec)

/-- ITS FALSE NEIGHBOUR: 'it returns false'. Refute it at one input. -/
def listenCountsWrong : ChangeSpec := { name := "listenCounts", fn := fun _ => fun
  | [d1, d2, d3, d4] => { results := [.lit (.bool false)], args := [d1, d2, d3, d4] }
  | _ => none }
def ListenCountsWrongFalsely : Prop := listenCountsRow.holds Try.pinned (OpenSpec.ofChange listenCountsWrong)

/-- 'deadwaxlaw09.ListenSamples': WHATEVER THE INPUT: true; the input reads as it did. -/
def listenSamplesSpec : ChangeSpec := { name := "listenSamples", fn := fun _ => fun
  | [d1, d2, d3, d4, d5, d6, d7] => { results := [.lit (.bool true)], args := [d1, d2, d3, d4, d5, d6, d7] }
  | _ => none }
def listenSamplesRow : OpenClaim := { program := "ytfaggcmcfhljpaa", sum := "96bcf77779755d74b9d25b53032313027a7cb9b5eb4cc2ce1202f6a0dda15045", func := "deadwax/deadwaxlaw09.ListenSamples", spec := "listenSamples", unfollowed := true, recurses := true, apart := false }
def ListenSamplesSaid : Prop := listenSamplesRow.holds Try.pinned (OpenSpec.ofChange listenSamplesSpec)

/-- ITS FALSE NEIGHBOUR: 'it returns false'. Refute it at one input. -/
def listenSamplesWrong : ChangeSpec := { name := "listenSamples", fn := fun _ => fun
  | [d1, d2, d3, d4, d5, d6, d7] => { results := [.lit (.bool false)], args := [d1, d2, d3, d4, d5, d6, d7] }
  | _ => none }
def ListenSamplesWrongFalsely : Prop := listenSamplesRow.holds Try.pinned (OpenSpec.ofChange listenSamplesWrong)

/-- 'deadwaxlaw09.ListenDescent': WHATEVER THE INPUT: true; the input reads as it did. -/
def listenDescentSpec : ChangeSpec := { name := "listenDescent", fn := fun _ => fun
  | [d1, d2, d3] => { results := [.lit (.bool true)], args := [d1, d2, d3] }
  | _ => none }
def listenDescentRow : OpenClaim := { program := "ytfaggcmcfhljpaa", sum := "96bcf77779755d74b9d25b53032313027a7cb9b5eb4cc2ce1202f6a0dda15045", func := "deadwax/deadwaxlaw09.ListenDescent", spec := "listenDescent", unfollowed := true, recurses := true, apart := false }
def ListenDescentSaid : Prop := listenDescentRow.holds Try.pinned (OpenSpec.ofChange listenDescentSpec)

/-- ITS FALSE NEIGHBOUR: 'it returns false'. Refute it at one input. -/
def listenDescentWrong : ChangeSpec := { name := "listenDescent", fn := fun _ => fun
  | [d1, d2, d3] => { results := [.lit (.bool false)], args := [d1, d2, d3] }
  | _ => none }
def ListenDescentWrongFalsely : Prop := listenDescentRow.holds Try.pinned (OpenSpec.ofChange listenDescentWrong)

/-- 'deadwaxlaw09.ListenNext': WHATEVER THE INPUT: true; the input reads as it did. -/
def listenNextSpec : ChangeSpec := { name := "listenNext", fn := fun _ => fun
  | [d1, d2, d3, d4, d5] => { results := [.lit (.bool true)], args := [d1, d2, d3, d4, d5] }
  | _ => none }
def listenNextRow : OpenClaim := { program := "ytfaggcmcfhljpaa", sum := "96bcf77779755d74b9d25b53032313027a7cb9b5eb4cc2ce1202f6a0dda15045", func := "deadwax/deadwaxlaw09.ListenNext", spec := "listenNext", unfollowed := true, recurses := true, apart := false }
def ListenNextSaid : Prop := listenNextRow.holds Try.pinned (OpenSpec.ofChange listenNextSpec)

/-- ITS FALSE NEIGHBOUR: 'it returns false'. Refute it at one input. -/
def listenNextWrong : ChangeSpec := { name := "listenNext", fn := fun _ => fun
  | [d1, d2, d3, d4, d5] => { results := [.lit (.bool false)], args := [d1, d2, d3, d4, d5] }
  | _ => none }
def ListenNextWrongFalsely : Prop := listenNextRow.holds Try.pinned (OpenSpec.ofChange listenNextWrong)

/-- 'deadwaxlaw09.ListenFound': WHATEVER THE INPUT: true; the input reads as it did. -/
def listenFoundSpec : ChangeSpec := { name := "listenFound", fn := fun _ => fun
  | [d1, d2, d3, d4] => { results := [.lit (.bool true)], args := [d1, d2, d3, d4] }
  | _ => none }
def listenFoundRow : OpenClaim := { program := "ytfaggcmcfhljpaa", sum := "96bcf77779755d74b9d25b53032313027a7cb9b5eb4cc2ce1202f6a0dda15045", func := "deadwax/deadwaxlaw09.ListenFound", spec := "listenFound", unfollowed := true, recurses := true, apart := false }
def ListenFoundSaid : Prop := listenFoundRow.holds Try.pinned (OpenSpec.ofChange listenFoundSpec)

/-- ITS FALSE NEIGHBOUR: 'it returns false'. Refute it at one input. -/
def listenFoundWrong : ChangeSpec := { name := "listenFound", fn := fun _ => fun
  | [d1, d2, d3, d4] => { results := [.lit (.bool false)], args := [d1, d2, d3, d4] }
  | _ => none }
def ListenFoundWrongFalsely : Prop := listenFoundRow.holds Try.pinned (OpenSpec.ofChange listenFoundWrong)

/-- 'deadwaxlaw09.ListenTruth': WHATEVER THE INPUT: true; the input reads as it did. -/
def listenTruthSpec : ChangeSpec := { name := "listenTruth", fn := fun _ => fun
  | [d1, d2, d3, d4, d5] => { results := [.lit (.bool true)], args := [d1, d2, d3, d4, d5] }
  | _ => none }
def listenTruthRow : OpenClaim := { program := "ytfaggcmcfhljpaa", sum := "96bcf77779755d74b9d25b53032313027a7cb9b5eb4cc2ce1202f6a0dda15045", func := "deadwax/deadwaxlaw09.ListenTruth", spec := "listenTruth", unfollowed := true, recurses := true, apart := false }
def ListenTruthSaid : Prop := listenTruthRow.holds Try.pinned (OpenSpec.ofChange listenTruthSpec)

/-- ITS FALSE NEIGHBOUR: 'it returns false'. Refute it at one input. -/
def listenTruthWrong : ChangeSpec := { name := "listenTruth", fn := fun _ => fun
  | [d1, d2, d3, d4, d5] => { results := [.lit (.bool false)], args := [d1, d2, d3, d4, d5] }
  | _ => none }
def ListenTruthWrongFalsely : Prop := listenTruthRow.holds Try.pinned (OpenSpec.ofChange listenTruthWrong)

/-- 'deadwaxlaw09.ListenKnown': WHATEVER THE INPUT: true; the input reads as it did. -/
def listenKnownSpec : ChangeSpec := { name := "listenKnown", fn := fun _ => fun
  | [] => { results := [.lit (.bool true)], args := [] }
  | _ => none }
def listenKnownRow : OpenClaim := { program := "ytfaggcmcfhljpaa", sum := "96bcf77779755d74b9d25b53032313027a7cb9b5eb4cc2ce1202f6a0dda15045", func := "deadwax/deadwaxlaw09.ListenKnown", spec := "listenKnown", unfollowed := true, recurses := true, apart := false }
def ListenKnownSaid : Prop := listenKnownRow.holds Try.pinned (OpenSpec.ofChange listenKnownSpec)

/-- ITS FALSE NEIGHBOUR: 'it returns false'. Refute it at one input. -/
def listenKnownWrong : ChangeSpec := { name := "listenKnown", fn := fun _ => fun
  | [] => { results := [.lit (.bool false)], args := [] }
  | _ => none }
def ListenKnownWrongFalsely : Prop := listenKnownRow.holds Try.pinned (OpenSpec.ofChange listenKnownWrong)

/- THE SECOND FORM. 'bulk': how many values and letters a reading holds, each counted each time it is reached (what is shared counts as often as it is met; a slice's spare places count too). A statement '..UptoSaid' is the law's where the arguments, and the package variables that the reading takes, are together of bulk at most 1048576: NARROWER than '..Said'. Prove '..Said' where nothing that the law and all that it calls make is longer than what came in: it says more and counts as full. Else prove '..UptoSaid'. A law counts once. -/
mutual
def uptoBulk {H : Type} : DataW H → Nat
  | .lit (.string bytes) => bytes.length + 1
  | .lit _ => 1
  | .nil => 1
  | .ptr d => uptoBulk d + 1
  | .slice elems spare => uptoBulkAll elems + uptoBulkAll spare + 1
  | .agg parts => uptoBulkAll parts + 1
  | .iface _ d => uptoBulk d + 1
  | .map entries => uptoBulkEntries entries + 1
  | .held _ => 1
def uptoBulkAll {H : Type} : List (DataW H) → Nat
  | [] => 0
  | d :: r => uptoBulk d + uptoBulkAll r
def uptoBulkEntries {H : Type} : List (Lit × DataW H) → Nat
  | [] => 0
  | x :: r => uptoBulkEntry x + uptoBulkEntries r
def uptoBulkEntry {H : Type} : Lit × DataW H → Nat
  | (.string bytes, d) => bytes.length + uptoBulk d + 1
  | (_, d) => uptoBulk d + 1
 end
def uptoSmall : (H : Type) → List (DataW H) → Bool := fun _ ds => decide (uptoBulkAll ds ≤ 1048576)
def OpenSpec.upto (s : _root_.Go.ChangeSpec) : _root_.Go.OpenSpec := { _root_.Go.OpenSpec.ofChange s with cond := some uptoSmall }

/-- 'deadwaxlaw09.ListenLeast', WHERE WHAT IT READS IS OF BULK AT MOST 1048576: true; the input reads as it did. -/
def listenLeastUptoRow : OpenClaim := { program := "ytfaggcmcfhljpaa", sum := "96bcf77779755d74b9d25b53032313027a7cb9b5eb4cc2ce1202f6a0dda15045", func := "deadwax/deadwaxlaw09.ListenLeast", spec := "listenLeast", unfollowed := true, recurses := true, apart := false, narrowed := true }
def ListenLeastUptoSaid : Prop := listenLeastUptoRow.holds Try.pinned (OpenSpec.upto listenLeastSpec)

/-- 'deadwaxlaw09.ListenCounts', WHERE WHAT IT READS IS OF BULK AT MOST 1048576: true; the input reads as it did. -/
def listenCountsUptoRow : OpenClaim := { program := "ytfaggcmcfhljpaa", sum := "96bcf77779755d74b9d25b53032313027a7cb9b5eb4cc2ce1202f6a0dda15045", func := "deadwax/deadwaxlaw09.ListenCounts", spec := "listenCounts", unfollowed := true, recurses := true, apart := false, narrowed := true }
def ListenCountsUptoSaid : Prop := listenCountsUptoRow.holds Try.pinned (OpenSpec.upto listenCountsSpec)

/-- 'deadwaxlaw09.ListenSamples', WHERE WHAT IT READS IS OF BULK AT MOST 1048576: true; the input reads as it did. -/
def listenSamplesUptoRow : OpenClaim := { program := "ytfaggcmcfhljpaa", sum := "96bcf77779755d74b9d25b53032313027a7cb9b5eb4cc2ce1202f6a0dda15045", func := "deadwax/deadwaxlaw09.ListenSamples", spec := "listenSamples", unfollowed := true, recurses := true, apart := false, narrowed := true }
def ListenSamplesUptoSaid : Prop := listenSamplesUptoRow.holds Try.pinned (OpenSpec.upto listenSamplesSpec)

/-- 'deadwaxlaw09.ListenDescent', WHERE WHAT IT READS IS OF BULK AT MOST 1048576: true; the input reads as it did. -/
def listenDescentUptoRow : OpenClaim := { program := "ytfaggcmcfhljpaa", sum := "96bcf77779755d74b9d25b53032313027a7cb9b5eb4cc2ce1202f6a0dda15045", func := "deadwax/deadwaxlaw09.ListenDescent", spec := "listenDescent", unfollowed := true, recurses := true, apart := false, narrowed := true }
def ListenDescentUptoSaid : Prop := listenDescentUptoRow.holds Try.pinned (OpenSpec.upto listenDescentSpec)

/-- 'deadwaxlaw09.ListenNext', WHERE WHAT IT READS IS OF BULK AT MOST 1048576: true; the input reads as it did. -/
def listenNextUptoRow : OpenClaim := { program := "ytfaggcmcfhljpaa", sum := "96bcf77779755d74b9d25b53032313027a7cb9b5eb4cc2ce1202f6a0dda15045", func := "deadwax/deadwaxlaw09.ListenNext", spec := "listenNext", unfollowed := true, recurses := true, apart := false, narrowed := true }
def ListenNextUptoSaid : Prop := listenNextUptoRow.holds Try.pinned (OpenSpec.upto listenNextSpec)

/-- 'deadwaxlaw09.ListenFound', WHERE WHAT IT READS IS OF BULK AT MOST 1048576: true; the input reads as it did. -/
def listenFoundUptoRow : OpenClaim := { program := "ytfaggcmcfhljpaa", sum := "96bcf77779755d74b9d25b53032313027a7cb9b5eb4cc2ce1202f6a0dda15045", func := "deadwax/deadwaxlaw09.ListenFound", spec := "listenFound", unfollowed := true, recurses := true, apart := false, narrowed := true }
def ListenFoundUptoSaid : Prop := listenFoundUptoRow.holds Try.pinned (OpenSpec.upto listenFoundSpec)

/-- 'deadwaxlaw09.ListenTruth', WHERE WHAT IT READS IS OF BULK AT MOST 1048576: true; the input reads as it did. -/
def listenTruthUptoRow : OpenClaim := { program := "ytfaggcmcfhljpaa", sum := "96bcf77779755d74b9d25b53032313027a7cb9b5eb4cc2ce1202f6a0dda15045", func := "deadwax/deadwaxlaw09.ListenTruth", spec := "listenTruth", unfollowed := true, recurses := true, apart := false, narrowed := true }
def ListenTruthUptoSaid : Prop := listenTruthUptoRow.holds Try.pinned (OpenSpec.upto listenTruthSpec)

/-- 'deadwaxlaw09.ListenKnown', WHERE WHAT IT READS IS OF BULK AT MOST 1048576: true; the input reads as it did. -/
def listenKnownUptoRow : OpenClaim := { program := "ytfaggcmcfhljpaa", sum := "96bcf77779755d74b9d25b53032313027a7cb9b5eb4cc2ce1202f6a0dda15045", func := "deadwax/deadwaxlaw09.ListenKnown", spec := "listenKnown", unfollowed := true, recurses := true, apart := false, narrowed := true }
def ListenKnownUptoSaid : Prop := listenKnownUptoRow.holds Try.pinned (OpenSpec.upto listenKnownSpec)

end Rows
end Go.Proofs.Ytfaggcmcfhljpaa
