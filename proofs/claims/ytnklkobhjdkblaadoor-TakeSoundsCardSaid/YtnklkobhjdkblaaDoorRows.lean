/-
  NARROWER THAN 'FOR EVERY INPUT', by the rows' own cells (each row's printed sentence says how): TakeCrossed: laid · TakeQuiet: laid · TakePlain: laid · TakeMeasures: laid · TakeSplits: laid · TakeParted: laid · TakeHeadroom: laid · TakeMirrored: laid · TakePlaces: laid · TakeJoined: laid · TakeRenders: laid · TakeSounds: laid.
  DERIVED. THE GIVEN ROWS OF THIS SEAT. 12 by the template 'for every input the law returns true; each argument reads behind the call as it read before'; 0 by the template 'total and deterministic' (their statements: YtnklkobhjdkblaaDoorTotals.lean).
  GIVEN WITH THE SEED: the statements are not yours to turn. If you find one false, say at which input.
  Laid BY PROGRAM, IN A SANDBOX (cutbox-rows.mjs): the forced cells as the released guide's own fill.sh prints them over the translation 444b5cbc5e956347… (all of the seat's roots in one cut). By AI agents, Wed Nov 11 2026. No macro, syntax, notation, axiom, sorry.
-/
import Derived.Test.YtnklkobhjdkblaaDoorChecked
import GoSem.PinnedTables
import GoSem.Claim
import GoSem.ClaimJoined
import GoSem.ClaimMapViews
import Derived.JoinedTies
import Derived.KernelRfl
namespace Go.Proofs.YtnklkobhjdkblaaDoor
/- THE CELL 'sum', in the pinned program and in every row, IS THE sha256 OF THE DUMP (.gsa) THAT YtnklkobhjdkblaaDoorProg.lean LOADS. Nothing in Lean hashes anything: it is a label: what it is worth is what the hold of that sum in a sandbox is worth. -/
noncomputable def Tryd.pinned : Pinned := { name := "ytnklkobhjdkblaadoor", sum := "444b5cbc5e9563476712db1af9eb40300f9e56430de03ce128d7bc9bdf822d73", checked := Tryd.checked }
namespace Rows
def none {H : Type} : Left H := { results := [], args := [] }

/- WHAT THE LISTED PACKAGE-LEVEL VARIABLES READ AS WHEN THE CALL BEGINS. Each datum BY PROGRAM (the guide's laid-datum.mjs) off the statement by which the dump's own 'gosem.cut.vars' lays the variable. In a bare row this is a premise. The card (YtnklkobhjdkblaaDoorCards.lean) ties it to the program's text. -/
def laid_unicode_utf8_acceptRanges {H : Type} : DataW H := .agg [.agg [.lit (.int .u8 128), .lit (.int .u8 191)], .agg [.lit (.int .u8 160), .lit (.int .u8 191)], .agg [.lit (.int .u8 128), .lit (.int .u8 159)], .agg [.lit (.int .u8 144), .lit (.int .u8 191)], .agg [.lit (.int .u8 128), .lit (.int .u8 143)], .agg [.lit (.int .u8 0), .lit (.int .u8 0)], .agg [.lit (.int .u8 0), .lit (.int .u8 0)], .agg [.lit (.int .u8 0), .lit (.int .u8 0)], .agg [.lit (.int .u8 0), .lit (.int .u8 0)], .agg [.lit (.int .u8 0), .lit (.int .u8 0)], .agg [.lit (.int .u8 0), .lit (.int .u8 0)], .agg [.lit (.int .u8 0), .lit (.int .u8 0)], .agg [.lit (.int .u8 0), .lit (.int .u8 0)], .agg [.lit (.int .u8 0), .lit (.int .u8 0)], .agg [.lit (.int .u8 0), .lit (.int .u8 0)], .agg [.lit (.int .u8 0), .lit (.int .u8 0)]]
/-- One of Go's own tables, pinned by name: the form's constant. -/
def laid_unicode_utf8_first : DataW Unit := Go.Pinned.utf8First

/-- 'deadwaxlaw01.TakeCrossed': WHATEVER THE INPUT: true; the input reads as it did. -/
def takeCrossedSpec : ChangeSpec := { name := "takeCrossed", fn := fun _ => fun
  | [d1, d2, d3, d4] => { results := [.lit (.bool true)], args := [d1, d2, d3, d4] }
  | _ => none }
def takeCrossedRow : OpenClaim := { program := "ytnklkobhjdkblaadoor", sum := "444b5cbc5e9563476712db1af9eb40300f9e56430de03ce128d7bc9bdf822d73", func := "deadwax/deadwaxlaw01.TakeCrossed", spec := "takeCrossed", inPlace := ["internal/bytealg.IndexByteString", "internal/bytealg.IndexString"], unfollowed := true, recurses := true, named := ["unicode/utf8.first", "unicode/utf8.acceptRanges", "internal/bytealg.MaxLen"], apart := false, laid := [("unicode/utf8.acceptRanges", laid_unicode_utf8_acceptRanges), ("unicode/utf8.first", laid_unicode_utf8_first)] }
def TakeCrossedSaid : Prop := takeCrossedRow.holds Tryd.pinned (OpenSpec.ofChange takeCrossedSpec)

/-- ITS FALSE NEIGHBOUR: 'it returns false'. Refute it at one input. -/
def takeCrossedWrong : ChangeSpec := { name := "takeCrossed", fn := fun _ => fun
  | [d1, d2, d3, d4] => { results := [.lit (.bool false)], args := [d1, d2, d3, d4] }
  | _ => none }
def TakeCrossedWrongFalsely : Prop := takeCrossedRow.holds Tryd.pinned (OpenSpec.ofChange takeCrossedWrong)

/-- 'deadwaxlaw01.TakeQuiet': WHATEVER THE INPUT: true; the input reads as it did. -/
def takeQuietSpec : ChangeSpec := { name := "takeQuiet", fn := fun _ => fun
  | [d1, d2, d3, d4] => { results := [.lit (.bool true)], args := [d1, d2, d3, d4] }
  | _ => none }
def takeQuietRow : OpenClaim := { program := "ytnklkobhjdkblaadoor", sum := "444b5cbc5e9563476712db1af9eb40300f9e56430de03ce128d7bc9bdf822d73", func := "deadwax/deadwaxlaw01.TakeQuiet", spec := "takeQuiet", inPlace := ["internal/bytealg.IndexByteString", "internal/bytealg.IndexString"], unfollowed := true, recurses := true, named := ["unicode/utf8.first", "unicode/utf8.acceptRanges", "internal/bytealg.MaxLen"], apart := false, laid := [("unicode/utf8.acceptRanges", laid_unicode_utf8_acceptRanges), ("unicode/utf8.first", laid_unicode_utf8_first)] }
def TakeQuietSaid : Prop := takeQuietRow.holds Tryd.pinned (OpenSpec.ofChange takeQuietSpec)

/-- ITS FALSE NEIGHBOUR: 'it returns false'. Refute it at one input. -/
def takeQuietWrong : ChangeSpec := { name := "takeQuiet", fn := fun _ => fun
  | [d1, d2, d3, d4] => { results := [.lit (.bool false)], args := [d1, d2, d3, d4] }
  | _ => none }
def TakeQuietWrongFalsely : Prop := takeQuietRow.holds Tryd.pinned (OpenSpec.ofChange takeQuietWrong)

/-- 'deadwaxlaw01.TakePlain': WHATEVER THE INPUT: true; the input reads as it did. -/
def takePlainSpec : ChangeSpec := { name := "takePlain", fn := fun _ => fun
  | [d1, d2] => { results := [.lit (.bool true)], args := [d1, d2] }
  | _ => none }
def takePlainRow : OpenClaim := { program := "ytnklkobhjdkblaadoor", sum := "444b5cbc5e9563476712db1af9eb40300f9e56430de03ce128d7bc9bdf822d73", func := "deadwax/deadwaxlaw01.TakePlain", spec := "takePlain", inPlace := ["internal/bytealg.IndexByteString", "internal/bytealg.IndexString"], unfollowed := true, recurses := true, named := ["unicode/utf8.first", "unicode/utf8.acceptRanges", "internal/bytealg.MaxLen"], apart := false, laid := [("unicode/utf8.acceptRanges", laid_unicode_utf8_acceptRanges), ("unicode/utf8.first", laid_unicode_utf8_first)] }
def TakePlainSaid : Prop := takePlainRow.holds Tryd.pinned (OpenSpec.ofChange takePlainSpec)

/-- ITS FALSE NEIGHBOUR: 'it returns false'. Refute it at one input. -/
def takePlainWrong : ChangeSpec := { name := "takePlain", fn := fun _ => fun
  | [d1, d2] => { results := [.lit (.bool false)], args := [d1, d2] }
  | _ => none }
def TakePlainWrongFalsely : Prop := takePlainRow.holds Tryd.pinned (OpenSpec.ofChange takePlainWrong)

/-- 'deadwaxlaw01.TakeMeasures': WHATEVER THE INPUT: true; the input reads as it did. -/
def takeMeasuresSpec : ChangeSpec := { name := "takeMeasures", fn := fun _ => fun
  | [d1, d2, d3] => { results := [.lit (.bool true)], args := [d1, d2, d3] }
  | _ => none }
def takeMeasuresRow : OpenClaim := { program := "ytnklkobhjdkblaadoor", sum := "444b5cbc5e9563476712db1af9eb40300f9e56430de03ce128d7bc9bdf822d73", func := "deadwax/deadwaxlaw01.TakeMeasures", spec := "takeMeasures", inPlace := ["internal/bytealg.IndexByteString", "internal/bytealg.IndexString"], unfollowed := true, recurses := true, named := ["unicode/utf8.first", "unicode/utf8.acceptRanges", "internal/bytealg.MaxLen"], apart := false, laid := [("unicode/utf8.acceptRanges", laid_unicode_utf8_acceptRanges), ("unicode/utf8.first", laid_unicode_utf8_first)] }
def TakeMeasuresSaid : Prop := takeMeasuresRow.holds Tryd.pinned (OpenSpec.ofChange takeMeasuresSpec)

/-- ITS FALSE NEIGHBOUR: 'it returns false'. Refute it at one input. -/
def takeMeasuresWrong : ChangeSpec := { name := "takeMeasures", fn := fun _ => fun
  | [d1, d2, d3] => { results := [.lit (.bool false)], args := [d1, d2, d3] }
  | _ => none }
def TakeMeasuresWrongFalsely : Prop := takeMeasuresRow.holds Tryd.pinned (OpenSpec.ofChange takeMeasuresWrong)

/-- 'deadwaxlaw01.TakeSplits': WHATEVER THE INPUT: true; the input reads as it did. -/
def takeSplitsSpec : ChangeSpec := { name := "takeSplits", fn := fun _ => fun
  | [d1, d2, d3] => { results := [.lit (.bool true)], args := [d1, d2, d3] }
  | _ => none }
def takeSplitsRow : OpenClaim := { program := "ytnklkobhjdkblaadoor", sum := "444b5cbc5e9563476712db1af9eb40300f9e56430de03ce128d7bc9bdf822d73", func := "deadwax/deadwaxlaw01.TakeSplits", spec := "takeSplits", inPlace := ["internal/bytealg.IndexByteString", "internal/bytealg.IndexString"], unfollowed := true, recurses := true, named := ["unicode/utf8.first", "unicode/utf8.acceptRanges", "internal/bytealg.MaxLen"], apart := false, laid := [("unicode/utf8.acceptRanges", laid_unicode_utf8_acceptRanges), ("unicode/utf8.first", laid_unicode_utf8_first)] }
def TakeSplitsSaid : Prop := takeSplitsRow.holds Tryd.pinned (OpenSpec.ofChange takeSplitsSpec)

/-- ITS FALSE NEIGHBOUR: 'it returns false'. Refute it at one input. -/
def takeSplitsWrong : ChangeSpec := { name := "takeSplits", fn := fun _ => fun
  | [d1, d2, d3] => { results := [.lit (.bool false)], args := [d1, d2, d3] }
  | _ => none }
def TakeSplitsWrongFalsely : Prop := takeSplitsRow.holds Tryd.pinned (OpenSpec.ofChange takeSplitsWrong)

/-- 'deadwaxlaw01.TakeParted': WHATEVER THE INPUT: true; the input reads as it did. -/
def takePartedSpec : ChangeSpec := { name := "takeParted", fn := fun _ => fun
  | [d1, d2, d3] => { results := [.lit (.bool true)], args := [d1, d2, d3] }
  | _ => none }
def takePartedRow : OpenClaim := { program := "ytnklkobhjdkblaadoor", sum := "444b5cbc5e9563476712db1af9eb40300f9e56430de03ce128d7bc9bdf822d73", func := "deadwax/deadwaxlaw01.TakeParted", spec := "takeParted", inPlace := ["internal/bytealg.IndexByteString", "internal/bytealg.IndexString"], unfollowed := true, recurses := true, named := ["unicode/utf8.first", "unicode/utf8.acceptRanges", "internal/bytealg.MaxLen"], apart := false, laid := [("unicode/utf8.acceptRanges", laid_unicode_utf8_acceptRanges), ("unicode/utf8.first", laid_unicode_utf8_first)] }
def TakePartedSaid : Prop := takePartedRow.holds Tryd.pinned (OpenSpec.ofChange takePartedSpec)

/-- ITS FALSE NEIGHBOUR: 'it returns false'. Refute it at one input. -/
def takePartedWrong : ChangeSpec := { name := "takeParted", fn := fun _ => fun
  | [d1, d2, d3] => { results := [.lit (.bool false)], args := [d1, d2, d3] }
  | _ => none }
def TakePartedWrongFalsely : Prop := takePartedRow.holds Tryd.pinned (OpenSpec.ofChange takePartedWrong)

/-- 'deadwaxlaw01.TakeHeadroom': WHATEVER THE INPUT: true; the input reads as it did. -/
def takeHeadroomSpec : ChangeSpec := { name := "takeHeadroom", fn := fun _ => fun
  | [d1, d2, d3] => { results := [.lit (.bool true)], args := [d1, d2, d3] }
  | _ => none }
def takeHeadroomRow : OpenClaim := { program := "ytnklkobhjdkblaadoor", sum := "444b5cbc5e9563476712db1af9eb40300f9e56430de03ce128d7bc9bdf822d73", func := "deadwax/deadwaxlaw01.TakeHeadroom", spec := "takeHeadroom", inPlace := ["internal/bytealg.IndexByteString", "internal/bytealg.IndexString"], unfollowed := true, recurses := true, named := ["unicode/utf8.first", "unicode/utf8.acceptRanges", "internal/bytealg.MaxLen"], apart := false, laid := [("unicode/utf8.acceptRanges", laid_unicode_utf8_acceptRanges), ("unicode/utf8.first", laid_unicode_utf8_first)] }
def TakeHeadroomSaid : Prop := takeHeadroomRow.holds Tryd.pinned (OpenSpec.ofChange takeHeadroomSpec)

/-- ITS FALSE NEIGHBOUR: 'it returns false'. Refute it at one input. -/
def takeHeadroomWrong : ChangeSpec := { name := "takeHeadroom", fn := fun _ => fun
  | [d1, d2, d3] => { results := [.lit (.bool false)], args := [d1, d2, d3] }
  | _ => none }
def TakeHeadroomWrongFalsely : Prop := takeHeadroomRow.holds Tryd.pinned (OpenSpec.ofChange takeHeadroomWrong)

/-- 'deadwaxlaw01.TakeMirrored': WHATEVER THE INPUT: true; the input reads as it did. -/
def takeMirroredSpec : ChangeSpec := { name := "takeMirrored", fn := fun _ => fun
  | [d1, d2] => { results := [.lit (.bool true)], args := [d1, d2] }
  | _ => none }
def takeMirroredRow : OpenClaim := { program := "ytnklkobhjdkblaadoor", sum := "444b5cbc5e9563476712db1af9eb40300f9e56430de03ce128d7bc9bdf822d73", func := "deadwax/deadwaxlaw01.TakeMirrored", spec := "takeMirrored", inPlace := ["internal/bytealg.IndexByteString", "internal/bytealg.IndexString"], unfollowed := true, recurses := true, named := ["unicode/utf8.first", "unicode/utf8.acceptRanges", "internal/bytealg.MaxLen"], apart := false, laid := [("unicode/utf8.acceptRanges", laid_unicode_utf8_acceptRanges), ("unicode/utf8.first", laid_unicode_utf8_first)] }
def TakeMirroredSaid : Prop := takeMirroredRow.holds Tryd.pinned (OpenSpec.ofChange takeMirroredSpec)

/-- ITS FALSE NEIGHBOUR: 'it returns false'. Refute it at one input. -/
def takeMirroredWrong : ChangeSpec := { name := "takeMirrored", fn := fun _ => fun
  | [d1, d2] => { results := [.lit (.bool false)], args := [d1, d2] }
  | _ => none }
def TakeMirroredWrongFalsely : Prop := takeMirroredRow.holds Tryd.pinned (OpenSpec.ofChange takeMirroredWrong)

/-- 'deadwaxlaw01.TakePlaces': WHATEVER THE INPUT: true; the input reads as it did. -/
def takePlacesSpec : ChangeSpec := { name := "takePlaces", fn := fun _ => fun
  | [d1, d2, d3] => { results := [.lit (.bool true)], args := [d1, d2, d3] }
  | _ => none }
def takePlacesRow : OpenClaim := { program := "ytnklkobhjdkblaadoor", sum := "444b5cbc5e9563476712db1af9eb40300f9e56430de03ce128d7bc9bdf822d73", func := "deadwax/deadwaxlaw01.TakePlaces", spec := "takePlaces", inPlace := ["internal/bytealg.IndexByteString", "internal/bytealg.IndexString"], unfollowed := true, recurses := true, named := ["unicode/utf8.first", "unicode/utf8.acceptRanges", "internal/bytealg.MaxLen"], apart := false, laid := [("unicode/utf8.acceptRanges", laid_unicode_utf8_acceptRanges), ("unicode/utf8.first", laid_unicode_utf8_first)] }
def TakePlacesSaid : Prop := takePlacesRow.holds Tryd.pinned (OpenSpec.ofChange takePlacesSpec)

/-- ITS FALSE NEIGHBOUR: 'it returns false'. Refute it at one input. -/
def takePlacesWrong : ChangeSpec := { name := "takePlaces", fn := fun _ => fun
  | [d1, d2, d3] => { results := [.lit (.bool false)], args := [d1, d2, d3] }
  | _ => none }
def TakePlacesWrongFalsely : Prop := takePlacesRow.holds Tryd.pinned (OpenSpec.ofChange takePlacesWrong)

/-- 'deadwaxlaw01.TakeJoined': WHATEVER THE INPUT: true; the input reads as it did. -/
def takeJoinedSpec : ChangeSpec := { name := "takeJoined", fn := fun _ => fun
  | [d1, d2, d3] => { results := [.lit (.bool true)], args := [d1, d2, d3] }
  | _ => none }
def takeJoinedRow : OpenClaim := { program := "ytnklkobhjdkblaadoor", sum := "444b5cbc5e9563476712db1af9eb40300f9e56430de03ce128d7bc9bdf822d73", func := "deadwax/deadwaxlaw01.TakeJoined", spec := "takeJoined", inPlace := ["internal/bytealg.IndexByteString", "internal/bytealg.IndexString"], unfollowed := true, recurses := true, named := ["unicode/utf8.first", "unicode/utf8.acceptRanges", "internal/bytealg.MaxLen"], apart := false, laid := [("unicode/utf8.acceptRanges", laid_unicode_utf8_acceptRanges), ("unicode/utf8.first", laid_unicode_utf8_first)] }
def TakeJoinedSaid : Prop := takeJoinedRow.holds Tryd.pinned (OpenSpec.ofChange takeJoinedSpec)

/-- ITS FALSE NEIGHBOUR: 'it returns false'. Refute it at one input. -/
def takeJoinedWrong : ChangeSpec := { name := "takeJoined", fn := fun _ => fun
  | [d1, d2, d3] => { results := [.lit (.bool false)], args := [d1, d2, d3] }
  | _ => none }
def TakeJoinedWrongFalsely : Prop := takeJoinedRow.holds Tryd.pinned (OpenSpec.ofChange takeJoinedWrong)

/-- 'deadwaxlaw01.TakeRenders': WHATEVER THE INPUT: true; the input reads as it did. -/
def takeRendersSpec : ChangeSpec := { name := "takeRenders", fn := fun _ => fun
  | [d1, d2, d3, d4] => { results := [.lit (.bool true)], args := [d1, d2, d3, d4] }
  | _ => none }
def takeRendersRow : OpenClaim := { program := "ytnklkobhjdkblaadoor", sum := "444b5cbc5e9563476712db1af9eb40300f9e56430de03ce128d7bc9bdf822d73", func := "deadwax/deadwaxlaw01.TakeRenders", spec := "takeRenders", inPlace := ["internal/bytealg.IndexByteString", "internal/bytealg.IndexString"], unfollowed := true, recurses := true, named := ["unicode/utf8.first", "unicode/utf8.acceptRanges", "internal/bytealg.MaxLen"], apart := false, laid := [("unicode/utf8.acceptRanges", laid_unicode_utf8_acceptRanges), ("unicode/utf8.first", laid_unicode_utf8_first)] }
def TakeRendersSaid : Prop := takeRendersRow.holds Tryd.pinned (OpenSpec.ofChange takeRendersSpec)

/-- ITS FALSE NEIGHBOUR: 'it returns false'. Refute it at one input. -/
def takeRendersWrong : ChangeSpec := { name := "takeRenders", fn := fun _ => fun
  | [d1, d2, d3, d4] => { results := [.lit (.bool false)], args := [d1, d2, d3, d4] }
  | _ => none }
def TakeRendersWrongFalsely : Prop := takeRendersRow.holds Tryd.pinned (OpenSpec.ofChange takeRendersWrong)

/-- 'deadwaxlaw01.TakeSounds': WHATEVER THE INPUT: true; the input reads as it did. -/
def takeSoundsSpec : ChangeSpec := { name := "takeSounds", fn := fun _ => fun
  | [d1, d2] => { results := [.lit (.bool true)], args := [d1, d2] }
  | _ => none }
def takeSoundsRow : OpenClaim := { program := "ytnklkobhjdkblaadoor", sum := "444b5cbc5e9563476712db1af9eb40300f9e56430de03ce128d7bc9bdf822d73", func := "deadwax/deadwaxlaw01.TakeSounds", spec := "takeSounds", inPlace := ["internal/bytealg.IndexByteString", "internal/bytealg.IndexString"], unfollowed := true, recurses := true, named := ["unicode/utf8.first", "unicode/utf8.acceptRanges", "internal/bytealg.MaxLen"], apart := false, laid := [("unicode/utf8.acceptRanges", laid_unicode_utf8_acceptRanges), ("unicode/utf8.first", laid_unicode_utf8_first)] }
def TakeSoundsSaid : Prop := takeSoundsRow.holds Tryd.pinned (OpenSpec.ofChange takeSoundsSpec)

/-- ITS FALSE NEIGHBOUR: 'it returns false'. Refute it at one input. -/
def takeSoundsWrong : ChangeSpec := { name := "takeSounds", fn := fun _ => fun
  | [d1, d2] => { results := [.lit (.bool false)], args := [d1, d2] }
  | _ => none }
def TakeSoundsWrongFalsely : Prop := takeSoundsRow.holds Tryd.pinned (OpenSpec.ofChange takeSoundsWrong)

/- THE SECOND FORM. 'bulk': how many values and letters a reading holds, each counted each time it is reached (what is shared counts as often as it is met; a slice's spare places count too). A statement '..UptoSaid' is the law's where the arguments, and the package variables that the reading takes, are together of bulk at most 1048576: NARROWER than '..Said'. Prove '..Said' where nothing that the law and all that it calls make is longer than what came in: it says more and counts as full. Else prove '..UptoSaid'. A law counts once. -/
mutual
def uptoBulk {H : Type} : DataW H → Nat
  | .lit (.string bytes) => bytes.length + 1
  | .lit _ => 1
  | .nil => 1
  | .ptr d => uptoBulk d + 1
  | .slice elems spare => uptoBulkAll elems + uptoBulkAll spare + 1
  | .agg parts => uptoBulkAll parts + 1
  | .iface _ d => uptoBulk d + 1
  | .map entries => uptoBulkEntries entries + 1
  | .held _ => 1
def uptoBulkAll {H : Type} : List (DataW H) → Nat
  | [] => 0
  | d :: r => uptoBulk d + uptoBulkAll r
def uptoBulkEntries {H : Type} : List (Lit × DataW H) → Nat
  | [] => 0
  | x :: r => uptoBulkEntry x + uptoBulkEntries r
def uptoBulkEntry {H : Type} : Lit × DataW H → Nat
  | (.string bytes, d) => bytes.length + uptoBulk d + 1
  | (_, d) => uptoBulk d + 1
 end
def uptoSmall : (H : Type) → List (DataW H) → Bool := fun _ ds => decide (uptoBulkAll ds ≤ 1048576)
def OpenSpec.upto (s : _root_.Go.ChangeSpec) : _root_.Go.OpenSpec := { _root_.Go.OpenSpec.ofChange s with cond := some uptoSmall }

/-- 'deadwaxlaw01.TakeCrossed', WHERE WHAT IT READS IS OF BULK AT MOST 1048576: true; the input reads as it did. -/
def takeCrossedUptoRow : OpenClaim := { program := "ytnklkobhjdkblaadoor", sum := "444b5cbc5e9563476712db1af9eb40300f9e56430de03ce128d7bc9bdf822d73", func := "deadwax/deadwaxlaw01.TakeCrossed", spec := "takeCrossed", inPlace := ["internal/bytealg.IndexByteString", "internal/bytealg.IndexString"], unfollowed := true, recurses := true, named := ["unicode/utf8.first", "unicode/utf8.acceptRanges", "internal/bytealg.MaxLen"], apart := false, laid := [("unicode/utf8.acceptRanges", laid_unicode_utf8_acceptRanges), ("unicode/utf8.first", laid_unicode_utf8_first)], narrowed := true }
def TakeCrossedUptoSaid : Prop := takeCrossedUptoRow.holds Tryd.pinned (OpenSpec.upto takeCrossedSpec)

/-- 'deadwaxlaw01.TakeQuiet', WHERE WHAT IT READS IS OF BULK AT MOST 1048576: true; the input reads as it did. -/
def takeQuietUptoRow : OpenClaim := { program := "ytnklkobhjdkblaadoor", sum := "444b5cbc5e9563476712db1af9eb40300f9e56430de03ce128d7bc9bdf822d73", func := "deadwax/deadwaxlaw01.TakeQuiet", spec := "takeQuiet", inPlace := ["internal/bytealg.IndexByteString", "internal/bytealg.IndexString"], unfollowed := true, recurses := true, named := ["unicode/utf8.first", "unicode/utf8.acceptRanges", "internal/bytealg.MaxLen"], apart := false, laid := [("unicode/utf8.acceptRanges", laid_unicode_utf8_acceptRanges), ("unicode/utf8.first", laid_unicode_utf8_first)], narrowed := true }
def TakeQuietUptoSaid : Prop := takeQuietUptoRow.holds Tryd.pinned (OpenSpec.upto takeQuietSpec)

/-- 'deadwaxlaw01.TakePlain', WHERE WHAT IT READS IS OF BULK AT MOST 1048576: true; the input reads as it did. -/
def takePlainUptoRow : OpenClaim := { program := "ytnklkobhjdkblaadoor", sum := "444b5cbc5e9563476712db1af9eb40300f9e56430de03ce128d7bc9bdf822d73", func := "deadwax/deadwaxlaw01.TakePlain", spec := "takePlain", inPlace := ["internal/bytealg.IndexByteString", "internal/bytealg.IndexString"], unfollowed := true, recurses := true, named := ["unicode/utf8.first", "unicode/utf8.acceptRanges", "internal/bytealg.MaxLen"], apart := false, laid := [("unicode/utf8.acceptRanges", laid_unicode_utf8_acceptRanges), ("unicode/utf8.first", laid_unicode_utf8_first)], narrowed := true }
def TakePlainUptoSaid : Prop := takePlainUptoRow.holds Tryd.pinned (OpenSpec.upto takePlainSpec)

/-- 'deadwaxlaw01.TakeMeasures', WHERE WHAT IT READS IS OF BULK AT MOST 1048576: true; the input reads as it did. -/
def takeMeasuresUptoRow : OpenClaim := { program := "ytnklkobhjdkblaadoor", sum := "444b5cbc5e9563476712db1af9eb40300f9e56430de03ce128d7bc9bdf822d73", func := "deadwax/deadwaxlaw01.TakeMeasures", spec := "takeMeasures", inPlace := ["internal/bytealg.IndexByteString", "internal/bytealg.IndexString"], unfollowed := true, recurses := true, named := ["unicode/utf8.first", "unicode/utf8.acceptRanges", "internal/bytealg.MaxLen"], apart := false, laid := [("unicode/utf8.acceptRanges", laid_unicode_utf8_acceptRanges), ("unicode/utf8.first", laid_unicode_utf8_first)], narrowed := true }
def TakeMeasuresUptoSaid : Prop := takeMeasuresUptoRow.holds Tryd.pinned (OpenSpec.upto takeMeasuresSpec)

/-- 'deadwaxlaw01.TakeSplits', WHERE WHAT IT READS IS OF BULK AT MOST 1048576: true; the input reads as it did. -/
def takeSplitsUptoRow : OpenClaim := { program := "ytnklkobhjdkblaadoor", sum := "444b5cbc5e9563476712db1af9eb40300f9e56430de03ce128d7bc9bdf822d73", func := "deadwax/deadwaxlaw01.TakeSplits", spec := "takeSplits", inPlace := ["internal/bytealg.IndexByteString", "internal/bytealg.IndexString"], unfollowed := true, recurses := true, named := ["unicode/utf8.first", "unicode/utf8.acceptRanges", "internal/bytealg.MaxLen"], apart := false, laid := [("unicode/utf8.acceptRanges", laid_unicode_utf8_acceptRanges), ("unicode/utf8.first", laid_unicode_utf8_first)], narrowed := true }
def TakeSplitsUptoSaid : Prop := takeSplitsUptoRow.holds Tryd.pinned (OpenSpec.upto takeSplitsSpec)

/-- 'deadwaxlaw01.TakeParted', WHERE WHAT IT READS IS OF BULK AT MOST 1048576: true; the input reads as it did. -/
def takePartedUptoRow : OpenClaim := { program := "ytnklkobhjdkblaadoor", sum := "444b5cbc5e9563476712db1af9eb40300f9e56430de03ce128d7bc9bdf822d73", func := "deadwax/deadwaxlaw01.TakeParted", spec := "takeParted", inPlace := ["internal/bytealg.IndexByteString", "internal/bytealg.IndexString"], unfollowed := true, recurses := true, named := ["unicode/utf8.first", "unicode/utf8.acceptRanges", "internal/bytealg.MaxLen"], apart := false, laid := [("unicode/utf8.acceptRanges", laid_unicode_utf8_acceptRanges), ("unicode/utf8.first", laid_unicode_utf8_first)], narrowed := true }
def TakePartedUptoSaid : Prop := takePartedUptoRow.holds Tryd.pinned (OpenSpec.upto takePartedSpec)

/-- 'deadwaxlaw01.TakeHeadroom', WHERE WHAT IT READS IS OF BULK AT MOST 1048576: true; the input reads as it did. -/
def takeHeadroomUptoRow : OpenClaim := { program := "ytnklkobhjdkblaadoor", sum := "444b5cbc5e9563476712db1af9eb40300f9e56430de03ce128d7bc9bdf822d73", func := "deadwax/deadwaxlaw01.TakeHeadroom", spec := "takeHeadroom", inPlace := ["internal/bytealg.IndexByteString", "internal/bytealg.IndexString"], unfollowed := true, recurses := true, named := ["unicode/utf8.first", "unicode/utf8.acceptRanges", "internal/bytealg.MaxLen"], apart := false, laid := [("unicode/utf8.acceptRanges", laid_unicode_utf8_acceptRanges), ("unicode/utf8.first", laid_unicode_utf8_first)], narrowed := true }
def TakeHeadroomUptoSaid : Prop := takeHeadroomUptoRow.holds Tryd.pinned (OpenSpec.upto takeHeadroomSpec)

/-- 'deadwaxlaw01.TakeMirrored', WHERE WHAT IT READS IS OF BULK AT MOST 1048576: true; the input reads as it did. -/
def takeMirroredUptoRow : OpenClaim := { program := "ytnklkobhjdkblaadoor", sum := "444b5cbc5e9563476712db1af9eb40300f9e56430de03ce128d7bc9bdf822d73", func := "deadwax/deadwaxlaw01.TakeMirrored", spec := "takeMirrored", inPlace := ["internal/bytealg.IndexByteString", "internal/bytealg.IndexString"], unfollowed := true, recurses := true, named := ["unicode/utf8.first", "unicode/utf8.acceptRanges", "internal/bytealg.MaxLen"], apart := false, laid := [("unicode/utf8.acceptRanges", laid_unicode_utf8_acceptRanges), ("unicode/utf8.first", laid_unicode_utf8_first)], narrowed := true }
def TakeMirroredUptoSaid : Prop := takeMirroredUptoRow.holds Tryd.pinned (OpenSpec.upto takeMirroredSpec)

/-- 'deadwaxlaw01.TakePlaces', WHERE WHAT IT READS IS OF BULK AT MOST 1048576: true; the input reads as it did. -/
def takePlacesUptoRow : OpenClaim := { program := "ytnklkobhjdkblaadoor", sum := "444b5cbc5e9563476712db1af9eb40300f9e56430de03ce128d7bc9bdf822d73", func := "deadwax/deadwaxlaw01.TakePlaces", spec := "takePlaces", inPlace := ["internal/bytealg.IndexByteString", "internal/bytealg.IndexString"], unfollowed := true, recurses := true, named := ["unicode/utf8.first", "unicode/utf8.acceptRanges", "internal/bytealg.MaxLen"], apart := false, laid := [("unicode/utf8.acceptRanges", laid_unicode_utf8_acceptRanges), ("unicode/utf8.first", laid_unicode_utf8_first)], narrowed := true }
def TakePlacesUptoSaid : Prop := takePlacesUptoRow.holds Tryd.pinned (OpenSpec.upto takePlacesSpec)

/-- 'deadwaxlaw01.TakeJoined', WHERE WHAT IT READS IS OF BULK AT MOST 1048576: true; the input reads as it did. -/
def takeJoinedUptoRow : OpenClaim := { program := "ytnklkobhjdkblaadoor", sum := "444b5cbc5e9563476712db1af9eb40300f9e56430de03ce128d7bc9bdf822d73", func := "deadwax/deadwaxlaw01.TakeJoined", spec := "takeJoined", inPlace := ["internal/bytealg.IndexByteString", "internal/bytealg.IndexString"], unfollowed := true, recurses := true, named := ["unicode/utf8.first", "unicode/utf8.acceptRanges", "internal/bytealg.MaxLen"], apart := false, laid := [("unicode/utf8.acceptRanges", laid_unicode_utf8_acceptRanges), ("unicode/utf8.first", laid_unicode_utf8_first)], narrowed := true }
def TakeJoinedUptoSaid : Prop := takeJoinedUptoRow.holds Tryd.pinned (OpenSpec.upto takeJoinedSpec)

/-- 'deadwaxlaw01.TakeRenders', WHERE WHAT IT READS IS OF BULK AT MOST 1048576: true; the input reads as it did. -/
def takeRendersUptoRow : OpenClaim := { program := "ytnklkobhjdkblaadoor", sum := "444b5cbc5e9563476712db1af9eb40300f9e56430de03ce128d7bc9bdf822d73", func := "deadwax/deadwaxlaw01.TakeRenders", spec := "takeRenders", inPlace := ["internal/bytealg.IndexByteString", "internal/bytealg.IndexString"], unfollowed := true, recurses := true, named := ["unicode/utf8.first", "unicode/utf8.acceptRanges", "internal/bytealg.MaxLen"], apart := false, laid := [("unicode/utf8.acceptRanges", laid_unicode_utf8_acceptRanges), ("unicode/utf8.first", laid_unicode_utf8_first)], narrowed := true }
def TakeRendersUptoSaid : Prop := takeRendersUptoRow.holds Tryd.pinned (OpenSpec.upto takeRendersSpec)

/-- 'deadwaxlaw01.TakeSounds', WHERE WHAT IT READS IS OF BULK AT MOST 1048576: true; the input reads as it did. -/
def takeSoundsUptoRow : OpenClaim := { program := "ytnklkobhjdkblaadoor", sum := "444b5cbc5e9563476712db1af9eb40300f9e56430de03ce128d7bc9bdf822d73", func := "deadwax/deadwaxlaw01.TakeSounds", spec := "takeSounds", inPlace := ["internal/bytealg.IndexByteString", "internal/bytealg.IndexString"], unfollowed := true, recurses := true, named := ["unicode/utf8.first", "unicode/utf8.acceptRanges", "internal/bytealg.MaxLen"], apart := false, laid := [("unicode/utf8.acceptRanges", laid_unicode_utf8_acceptRanges), ("unicode/utf8.first", laid_unicode_utf8_first)], narrowed := true }
def TakeSoundsUptoSaid : Prop := takeSoundsUptoRow.holds Tryd.pinned (OpenSpec.upto takeSoundsSpec)

end Rows
end Go.Proofs.YtnklkobhjdkblaaDoor
