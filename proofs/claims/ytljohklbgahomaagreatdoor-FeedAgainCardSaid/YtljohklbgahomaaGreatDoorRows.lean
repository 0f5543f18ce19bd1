/-
  NARROWER THAN 'FOR EVERY INPUT', by the rows' own cells (each row's printed sentence says how): FeedParses: laid · FeedOfs: loops, laid · FeedWrites: laid · FeedAgain: laid.
  DERIVED. THE GIVEN ROWS OF THIS SEAT. 4 by the template 'for every input the law returns true; each argument reads behind the call as it read before'; 0 by the template 'total and deterministic' (their statements: YtljohklbgahomaaGreatDoorTotals.lean).
  GIVEN WITH THE SEED: the statements are not yours to turn. If you find one false, say at which input.
  Laid BY PROGRAM, IN A SANDBOX (cutbox-rows.mjs): the forced cells as the released guide's own fill.sh prints them over the translation 3bbb50b7836ff0bf… (all of the seat's roots in one cut). By AI agents, Wed Nov 11 2026. No macro, syntax, notation, axiom, sorry.
-/
import Derived.Test.YtljohklbgahomaaGreatDoorChecked
import GoSem.PinnedTables
import GoSem.Claim
import GoSem.ClaimJoined
import GoSem.ClaimMapViews
import Derived.JoinedTies
import Derived.KernelRfl
namespace Go.Proofs.YtljohklbgahomaaGreatDoor
/- THE CELL 'sum', in the pinned program and in every row, IS THE sha256 OF THE DUMP (.gsa) THAT YtljohklbgahomaaGreatDoorProg.lean LOADS. Nothing in Lean hashes anything: it is a label: what it is worth is what the hold of that sum in a sandbox is worth. -/
noncomputable def Tryz.pinned : Pinned := { name := "ytljohklbgahomaagreatdoor", sum := "3bbb50b7836ff0bf2254e398de9bdca91af2057996b94ad12acaee4b13961f97", checked := Tryz.checked }
namespace Rows
def none {H : Type} : Left H := { results := [], args := [] }

/- WHAT THE LISTED PACKAGE-LEVEL VARIABLES READ AS WHEN THE CALL BEGINS. Each datum BY PROGRAM (the guide's laid-datum.mjs) off the statement by which the dump's own 'gosem.cut.vars' lays the variable. In a bare row this is a premise. The card (YtljohklbgahomaaGreatDoorCards.lean) ties it to the program's text. -/
def laid_unicode_utf8_acceptRanges {H : Type} : DataW H := .agg [.agg [.lit (.int .u8 128), .lit (.int .u8 191)], .agg [.lit (.int .u8 160), .lit (.int .u8 191)], .agg [.lit (.int .u8 128), .lit (.int .u8 159)], .agg [.lit (.int .u8 144), .lit (.int .u8 191)], .agg [.lit (.int .u8 128), .lit (.int .u8 143)], .agg [.lit (.int .u8 0), .lit (.int .u8 0)], .agg [.lit (.int .u8 0), .lit (.int .u8 0)], .agg [.lit (.int .u8 0), .lit (.int .u8 0)], .agg [.lit (.int .u8 0), .lit (.int .u8 0)], .agg [.lit (.int .u8 0), .lit (.int .u8 0)], .agg [.lit (.int .u8 0), .lit (.int .u8 0)], .agg [.lit (.int .u8 0), .lit (.int .u8 0)], .agg [.lit (.int .u8 0), .lit (.int .u8 0)], .agg [.lit (.int .u8 0), .lit (.int .u8 0)], .agg [.lit (.int .u8 0), .lit (.int .u8 0)], .agg [.lit (.int .u8 0), .lit (.int .u8 0)]]
/-- One of Go's own tables, pinned by name: the form's constant. -/
def laid_unicode_utf8_first : DataW Unit := Go.Pinned.utf8First

/-- 'newsstandlaw12.FeedParses': WHATEVER THE INPUT: true; the input reads as it did. -/
def feedParsesSpec : ChangeSpec := { name := "feedParses", fn := fun _ => fun
  | [d] => { results := [.lit (.bool true)], args := [d] }
  | _ => none }
def feedParsesRow : OpenClaim := { program := "ytljohklbgahomaagreatdoor", sum := "3bbb50b7836ff0bf2254e398de9bdca91af2057996b94ad12acaee4b13961f97", func := "newsstand/newsstandlaw12.FeedParses", spec := "feedParses", inPlace := ["internal/bytealg.IndexByteString", "internal/bytealg.IndexString", "internal/abi.NoEscape", "internal/bytealg.CountString", "internal/bytealg.MakeNoZero"], unfollowed := true, recurses := true, named := ["internal/bytealg.MaxLen", "unicode/utf8.first", "unicode/utf8.acceptRanges"], apart := false, laid := [("unicode/utf8.acceptRanges", laid_unicode_utf8_acceptRanges), ("unicode/utf8.first", laid_unicode_utf8_first)] }
def FeedParsesSaid : Prop := feedParsesRow.holds Tryz.pinned (OpenSpec.ofChange feedParsesSpec)

/-- ITS FALSE NEIGHBOUR: 'it returns false'. Refute it at one input. -/
def feedParsesWrong : ChangeSpec := { name := "feedParses", fn := fun _ => fun
  | [d] => { results := [.lit (.bool false)], args := [d] }
  | _ => none }
def FeedParsesWrongFalsely : Prop := feedParsesRow.holds Tryz.pinned (OpenSpec.ofChange feedParsesWrong)

/-- 'newsstandlaw12.FeedOfs': WHATEVER THE INPUT: true; the input reads as it did. -/
def feedOfsSpec : ChangeSpec := { name := "feedOfs", fn := fun _ => fun
  | [d1, d2] => { results := [.lit (.bool true)], args := [d1, d2] }
  | _ => none }
def feedOfsRow : OpenClaim := { program := "ytljohklbgahomaagreatdoor", sum := "3bbb50b7836ff0bf2254e398de9bdca91af2057996b94ad12acaee4b13961f97", func := "newsstand/newsstandlaw12.FeedOfs", spec := "feedOfs", inPlace := ["internal/bytealg.IndexByteString", "internal/bytealg.IndexString", "internal/abi.NoEscape", "internal/bytealg.CountString", "internal/bytealg.MakeNoZero"], unfollowed := true, recurses := true, named := ["internal/bytealg.MaxLen", "unicode/utf8.first", "unicode/utf8.acceptRanges"], loops := true, apart := false, laid := [("unicode/utf8.acceptRanges", laid_unicode_utf8_acceptRanges), ("unicode/utf8.first", laid_unicode_utf8_first)] }
def FeedOfsSaid : Prop := feedOfsRow.holds Tryz.pinned (OpenSpec.ofChange feedOfsSpec)

/-- ITS FALSE NEIGHBOUR: 'it returns false'. Refute it at one input. -/
def feedOfsWrong : ChangeSpec := { name := "feedOfs", fn := fun _ => fun
  | [d1, d2] => { results := [.lit (.bool false)], args := [d1, d2] }
  | _ => none }
def FeedOfsWrongFalsely : Prop := feedOfsRow.holds Tryz.pinned (OpenSpec.ofChange feedOfsWrong)

/-- 'newsstandlaw12.FeedWrites': WHATEVER THE INPUT: true; the input reads as it did. -/
def feedWritesSpec : ChangeSpec := { name := "feedWrites", fn := fun _ => fun
  | [d] => { results := [.lit (.bool true)], args := [d] }
  | _ => none }
def feedWritesRow : OpenClaim := { program := "ytljohklbgahomaagreatdoor", sum := "3bbb50b7836ff0bf2254e398de9bdca91af2057996b94ad12acaee4b13961f97", func := "newsstand/newsstandlaw12.FeedWrites", spec := "feedWrites", inPlace := ["internal/bytealg.IndexByteString", "internal/bytealg.IndexString", "internal/abi.NoEscape", "internal/bytealg.CountString", "internal/bytealg.MakeNoZero"], unfollowed := true, recurses := true, named := ["internal/bytealg.MaxLen", "unicode/utf8.first", "unicode/utf8.acceptRanges"], apart := false, laid := [("unicode/utf8.acceptRanges", laid_unicode_utf8_acceptRanges), ("unicode/utf8.first", laid_unicode_utf8_first)] }
def FeedWritesSaid : Prop := feedWritesRow.holds Tryz.pinned (OpenSpec.ofChange feedWritesSpec)

/-- ITS FALSE NEIGHBOUR: 'it returns false'. Refute it at one input. -/
def feedWritesWrong : ChangeSpec := { name := "feedWrites", fn := fun _ => fun
  | [d] => { results := [.lit (.bool false)], args := [d] }
  | _ => none }
def FeedWritesWrongFalsely : Prop := feedWritesRow.holds Tryz.pinned (OpenSpec.ofChange feedWritesWrong)

/-- 'newsstandlaw12.FeedAgain': WHATEVER THE INPUT: true; the input reads as it did. -/
def feedAgainSpec : ChangeSpec := { name := "feedAgain", fn := fun _ => fun
  | [d] => { results := [.lit (.bool true)], args := [d] }
  | _ => none }
def feedAgainRow : OpenClaim := { program := "ytljohklbgahomaagreatdoor", sum := "3bbb50b7836ff0bf2254e398de9bdca91af2057996b94ad12acaee4b13961f97", func := "newsstand/newsstandlaw12.FeedAgain", spec := "feedAgain", inPlace := ["internal/bytealg.IndexByteString", "internal/bytealg.IndexString", "internal/abi.NoEscape", "internal/bytealg.CountString", "internal/bytealg.MakeNoZero"], unfollowed := true, recurses := true, named := ["internal/bytealg.MaxLen", "unicode/utf8.first", "unicode/utf8.acceptRanges"], apart := false, laid := [("unicode/utf8.acceptRanges", laid_unicode_utf8_acceptRanges), ("unicode/utf8.first", laid_unicode_utf8_first)] }
def FeedAgainSaid : Prop := feedAgainRow.holds Tryz.pinned (OpenSpec.ofChange feedAgainSpec)

/-- ITS FALSE NEIGHBOUR: 'it returns false'. Refute it at one input. -/
def feedAgainWrong : ChangeSpec := { name := "feedAgain", fn := fun _ => fun
  | [d] => { results := [.lit (.bool false)], args := [d] }
  | _ => none }
def FeedAgainWrongFalsely : Prop := feedAgainRow.holds Tryz.pinned (OpenSpec.ofChange feedAgainWrong)

/- THE SECOND FORM. 'bulk': how many values and letters a reading holds, each counted each time it is reached (what is shared counts as often as it is met; a slice's spare places count too). A statement '..UptoSaid' is the law's where the arguments, and the package variables that the reading takes, are together of bulk at most 1048576: NARROWER than '..Said'. Prove '..Said' where nothing that the law and all that it calls make is longer than what came in: it says more and counts as full. Else prove '..UptoSaid'. A law counts once. -/
mutual
def uptoBulk {H : Type} : DataW H → Nat
  | .lit (.string bytes) => bytes.length + 1
  | .lit _ => 1
  | .nil => 1
  | .ptr d => uptoBulk d + 1
  | .slice elems spare => uptoBulkAll elems + uptoBulkAll spare + 1
  | .agg parts => uptoBulkAll parts + 1
  | .iface _ d => uptoBulk d + 1
  | .map entries => uptoBulkEntries entries + 1
  | .held _ => 1
def uptoBulkAll {H : Type} : List (DataW H) → Nat
  | [] => 0
  | d :: r => uptoBulk d + uptoBulkAll r
def uptoBulkEntries {H : Type} : List (Lit × DataW H) → Nat
  | [] => 0
  | x :: r => uptoBulkEntry x + uptoBulkEntries r
def uptoBulkEntry {H : Type} : Lit × DataW H → Nat
  | (.string bytes, d) => bytes.length + uptoBulk d + 1
  | (_, d) => uptoBulk d + 1
 end
def uptoSmall : (H : Type) → List (DataW H) → Bool := fun _ ds => decide (uptoBulkAll ds ≤ 1048576)
def OpenSpec.upto (s : _root_.Go.ChangeSpec) : _root_.Go.OpenSpec := { _root_.Go.OpenSpec.ofChange s with cond := some uptoSmall }

/-- 'newsstandlaw12.FeedParses', WHERE WHAT IT READS IS OF BULK AT MOST 1048576: true; the input reads as it did. -/
def feedParsesUptoRow : OpenClaim := { program := "ytljohklbgahomaagreatdoor", sum := "3bbb50b7836ff0bf2254e398de9bdca91af2057996b94ad12acaee4b13961f97", func := "newsstand/newsstandlaw12.FeedParses", spec := "feedParses", inPlace := ["internal/bytealg.IndexByteString", "internal/bytealg.IndexString", "internal/abi.NoEscape", "internal/bytealg.CountString", "internal/bytealg.MakeNoZero"], unfollowed := true, recurses := true, named := ["internal/bytealg.MaxLen", "unicode/utf8.first", "unicode/utf8.acceptRanges"], apart := false, laid := [("unicode/utf8.acceptRanges", laid_unicode_utf8_acceptRanges), ("unicode/utf8.first", laid_unicode_utf8_first)], narrowed := true }
def FeedParsesUptoSaid : Prop := feedParsesUptoRow.holds Tryz.pinned (OpenSpec.upto feedParsesSpec)

/-- 'newsstandlaw12.FeedOfs', WHERE WHAT IT READS IS OF BULK AT MOST 1048576: true; the input reads as it did. -/
def feedOfsUptoRow : OpenClaim := { program := "ytljohklbgahomaagreatdoor", sum := "3bbb50b7836ff0bf2254e398de9bdca91af2057996b94ad12acaee4b13961f97", func := "newsstand/newsstandlaw12.FeedOfs", spec := "feedOfs", inPlace := ["internal/bytealg.IndexByteString", "internal/bytealg.IndexString", "internal/abi.NoEscape", "internal/bytealg.CountString", "internal/bytealg.MakeNoZero"], unfollowed := true, recurses := true, named := ["internal/bytealg.MaxLen", "unicode/utf8.first", "unicode/utf8.acceptRanges"], loops := true, apart := false, laid := [("unicode/utf8.acceptRanges", laid_unicode_utf8_acceptRanges), ("unicode/utf8.first", laid_unicode_utf8_first)], narrowed := true }
def FeedOfsUptoSaid : Prop := feedOfsUptoRow.holds Tryz.pinned (OpenSpec.upto feedOfsSpec)

/-- 'newsstandlaw12.FeedWrites', WHERE WHAT IT READS IS OF BULK AT MOST 1048576: true; the input reads as it did. -/
def feedWritesUptoRow : OpenClaim := { program := "ytljohklbgahomaagreatdoor", sum := "3bbb50b7836ff0bf2254e398de9bdca91af2057996b94ad12acaee4b13961f97", func := "newsstand/newsstandlaw12.FeedWrites", spec := "feedWrites", inPlace := ["internal/bytealg.IndexByteString", "internal/bytealg.IndexString", "internal/abi.NoEscape", "internal/bytealg.CountString", "internal/bytealg.MakeNoZero"], unfollowed := true, recurses := true, named := ["internal/bytealg.MaxLen", "unicode/utf8.first", "unicode/utf8.acceptRanges"], apart := false, laid := [("unicode/utf8.acceptRanges", laid_unicode_utf8_acceptRanges), ("unicode/utf8.first", laid_unicode_utf8_first)], narrowed := true }
def FeedWritesUptoSaid : Prop := feedWritesUptoRow.holds Tryz.pinned (OpenSpec.upto feedWritesSpec)

/-- 'newsstandlaw12.FeedAgain', WHERE WHAT IT READS IS OF BULK AT MOST 1048576: true; the input reads as it did. -/
def feedAgainUptoRow : OpenClaim := { program := "ytljohklbgahomaagreatdoor", sum := "3bbb50b7836ff0bf2254e398de9bdca91af2057996b94ad12acaee4b13961f97", func := "newsstand/newsstandlaw12.FeedAgain", spec := "feedAgain", inPlace := ["internal/bytealg.IndexByteString", "internal/bytealg.IndexString", "internal/abi.NoEscape", "internal/bytealg.CountString", "internal/bytealg.MakeNoZero"], unfollowed := true, recurses := true, named := ["internal/bytealg.MaxLen", "unicode/utf8.first", "unicode/utf8.acceptRanges"], apart := false, laid := [("unicode/utf8.acceptRanges", laid_unicode_utf8_acceptRanges), ("unicode/utf8.first", laid_unicode_utf8_first)], narrowed := true }
def FeedAgainUptoSaid : Prop := feedAgainUptoRow.holds Tryz.pinned (OpenSpec.upto feedAgainSpec)

end Rows
end Go.Proofs.YtljohklbgahomaaGreatDoor
