/-
  NARROWER THAN 'FOR EVERY INPUT', by the rows' own cells (each row's printed sentence says how): TreeParses: laid · TreeLooks: loops, laid · OpmlReads: laid · OpmlWrites: loops, laid · OpmlFeeds: loops, laid · OpmlAgain: laid.
  DERIVED. THE GIVEN ROWS OF THIS SEAT. 6 by the template 'for every input the law returns true; each argument reads behind the call as it read before'; 0 by the template 'total and deterministic' (their statements: YtjgligkejfjbpaaGreatDoorTotals.lean).
  GIVEN WITH THE SEED: the statements are not yours to turn. If you find one false, say at which input.
  Laid BY PROGRAM, IN A SANDBOX (cutbox-rows.mjs): the forced cells as the released guide's own fill.sh prints them over the translation 12fd80409ce62e85… (all of the seat's roots in one cut). By AI agents, Wed Nov 11 2026. No macro, syntax, notation, axiom, sorry.
-/
import Derived.Test.YtjgligkejfjbpaaGreatDoorChecked
import GoSem.PinnedTables
import GoSem.Claim
import GoSem.ClaimJoined
import GoSem.ClaimMapViews
import Derived.JoinedTies
import Derived.KernelRfl
namespace Go.Proofs.YtjgligkejfjbpaaGreatDoor
/- THE CELL 'sum', in the pinned program and in every row, IS THE sha256 OF THE DUMP (.gsa) THAT YtjgligkejfjbpaaGreatDoorProg.lean LOADS. Nothing in Lean hashes anything: it is a label: what it is worth is what the hold of that sum in a sandbox is worth. -/
noncomputable def Tryz.pinned : Pinned := { name := "ytjgligkejfjbpaagreatdoor", sum := "12fd80409ce62e851b71e710a5aa5238063f1a8f6b13dfdb6623f535b6589b66", checked := Tryz.checked }
namespace Rows
def none {H : Type} : Left H := { results := [], args := [] }

/- WHAT THE LISTED PACKAGE-LEVEL VARIABLES READ AS WHEN THE CALL BEGINS. Each datum BY PROGRAM (the guide's laid-datum.mjs) off the statement by which the dump's own 'gosem.cut.vars' lays the variable. In a bare row this is a premise. The card (YtjgligkejfjbpaaGreatDoorCards.lean) ties it to the program's text. -/
def laid_unicode_utf8_acceptRanges {H : Type} : DataW H := .agg [.agg [.lit (.int .u8 128), .lit (.int .u8 191)], .agg [.lit (.int .u8 160), .lit (.int .u8 191)], .agg [.lit (.int .u8 128), .lit (.int .u8 159)], .agg [.lit (.int .u8 144), .lit (.int .u8 191)], .agg [.lit (.int .u8 128), .lit (.int .u8 143)], .agg [.lit (.int .u8 0), .lit (.int .u8 0)], .agg [.lit (.int .u8 0), .lit (.int .u8 0)], .agg [.lit (.int .u8 0), .lit (.int .u8 0)], .agg [.lit (.int .u8 0), .lit (.int .u8 0)], .agg [.lit (.int .u8 0), .lit (.int .u8 0)], .agg [.lit (.int .u8 0), .lit (.int .u8 0)], .agg [.lit (.int .u8 0), .lit (.int .u8 0)], .agg [.lit (.int .u8 0), .lit (.int .u8 0)], .agg [.lit (.int .u8 0), .lit (.int .u8 0)], .agg [.lit (.int .u8 0), .lit (.int .u8 0)], .agg [.lit (.int .u8 0), .lit (.int .u8 0)]]
/-- One of Go's own tables, pinned by name: the form's constant. -/
def laid_unicode_utf8_first : DataW Unit := Go.Pinned.utf8First

/-- 'newsstandlaw09.TreeParses': WHATEVER THE INPUT: true; the input reads as it did. -/
def treeParsesSpec : ChangeSpec := { name := "treeParses", fn := fun _ => fun
  | [d] => { results := [.lit (.bool true)], args := [d] }
  | _ => none }
def treeParsesRow : OpenClaim := { program := "ytjgligkejfjbpaagreatdoor", sum := "12fd80409ce62e851b71e710a5aa5238063f1a8f6b13dfdb6623f535b6589b66", func := "newsstand/newsstandlaw09.TreeParses", spec := "treeParses", inPlace := ["internal/bytealg.IndexByteString", "internal/bytealg.IndexString", "internal/abi.NoEscape"], unfollowed := true, recurses := true, named := ["internal/bytealg.MaxLen", "unicode/utf8.first", "unicode/utf8.acceptRanges"], apart := false, laid := [("unicode/utf8.acceptRanges", laid_unicode_utf8_acceptRanges), ("unicode/utf8.first", laid_unicode_utf8_first)] }
def TreeParsesSaid : Prop := treeParsesRow.holds Tryz.pinned (OpenSpec.ofChange treeParsesSpec)

/-- ITS FALSE NEIGHBOUR: 'it returns false'. Refute it at one input. -/
def treeParsesWrong : ChangeSpec := { name := "treeParses", fn := fun _ => fun
  | [d] => { results := [.lit (.bool false)], args := [d] }
  | _ => none }
def TreeParsesWrongFalsely : Prop := treeParsesRow.holds Tryz.pinned (OpenSpec.ofChange treeParsesWrong)

/-- 'newsstandlaw09.TreeLooks': WHATEVER THE INPUT: true; the input reads as it did. -/
def treeLooksSpec : ChangeSpec := { name := "treeLooks", fn := fun _ => fun
  | [d1, d2, d3] => { results := [.lit (.bool true)], args := [d1, d2, d3] }
  | _ => none }
def treeLooksRow : OpenClaim := { program := "ytjgligkejfjbpaagreatdoor", sum := "12fd80409ce62e851b71e710a5aa5238063f1a8f6b13dfdb6623f535b6589b66", func := "newsstand/newsstandlaw09.TreeLooks", spec := "treeLooks", inPlace := ["internal/bytealg.IndexByteString", "internal/bytealg.IndexString", "internal/abi.NoEscape"], unfollowed := true, recurses := true, named := ["internal/bytealg.MaxLen", "unicode/utf8.first", "unicode/utf8.acceptRanges"], loops := true, apart := false, laid := [("unicode/utf8.acceptRanges", laid_unicode_utf8_acceptRanges), ("unicode/utf8.first", laid_unicode_utf8_first)] }
def TreeLooksSaid : Prop := treeLooksRow.holds Tryz.pinned (OpenSpec.ofChange treeLooksSpec)

/-- ITS FALSE NEIGHBOUR: 'it returns false'. Refute it at one input. -/
def treeLooksWrong : ChangeSpec := { name := "treeLooks", fn := fun _ => fun
  | [d1, d2, d3] => { results := [.lit (.bool false)], args := [d1, d2, d3] }
  | _ => none }
def TreeLooksWrongFalsely : Prop := treeLooksRow.holds Tryz.pinned (OpenSpec.ofChange treeLooksWrong)

/-- 'newsstandlaw13.OpmlReads': WHATEVER THE INPUT: true; the input reads as it did. -/
def opmlReadsSpec : ChangeSpec := { name := "opmlReads", fn := fun _ => fun
  | [d] => { results := [.lit (.bool true)], args := [d] }
  | _ => none }
def opmlReadsRow : OpenClaim := { program := "ytjgligkejfjbpaagreatdoor", sum := "12fd80409ce62e851b71e710a5aa5238063f1a8f6b13dfdb6623f535b6589b66", func := "newsstand/newsstandlaw13.OpmlReads", spec := "opmlReads", inPlace := ["internal/bytealg.IndexByteString", "internal/bytealg.IndexString", "internal/abi.NoEscape"], unfollowed := true, recurses := true, named := ["internal/bytealg.MaxLen", "unicode/utf8.first", "unicode/utf8.acceptRanges"], apart := false, laid := [("unicode/utf8.acceptRanges", laid_unicode_utf8_acceptRanges), ("unicode/utf8.first", laid_unicode_utf8_first)] }
def OpmlReadsSaid : Prop := opmlReadsRow.holds Tryz.pinned (OpenSpec.ofChange opmlReadsSpec)

/-- ITS FALSE NEIGHBOUR: 'it returns false'. Refute it at one input. -/
def opmlReadsWrong : ChangeSpec := { name := "opmlReads", fn := fun _ => fun
  | [d] => { results := [.lit (.bool false)], args := [d] }
  | _ => none }
def OpmlReadsWrongFalsely : Prop := opmlReadsRow.holds Tryz.pinned (OpenSpec.ofChange opmlReadsWrong)

/-- 'newsstandlaw13.OpmlWrites': WHATEVER THE INPUT: true; the input reads as it did. -/
def opmlWritesSpec : ChangeSpec := { name := "opmlWrites", fn := fun _ => fun
  | [d] => { results := [.lit (.bool true)], args := [d] }
  | _ => none }
def opmlWritesRow : OpenClaim := { program := "ytjgligkejfjbpaagreatdoor", sum := "12fd80409ce62e851b71e710a5aa5238063f1a8f6b13dfdb6623f535b6589b66", func := "newsstand/newsstandlaw13.OpmlWrites", spec := "opmlWrites", inPlace := ["internal/bytealg.IndexByteString", "internal/bytealg.IndexString", "internal/abi.NoEscape"], unfollowed := true, recurses := true, named := ["internal/bytealg.MaxLen", "unicode/utf8.first", "unicode/utf8.acceptRanges"], loops := true, apart := false, laid := [("unicode/utf8.acceptRanges", laid_unicode_utf8_acceptRanges), ("unicode/utf8.first", laid_unicode_utf8_first)] }
def OpmlWritesSaid : Prop := opmlWritesRow.holds Tryz.pinned (OpenSpec.ofChange opmlWritesSpec)

/-- ITS FALSE NEIGHBOUR: 'it returns false'. Refute it at one input. -/
def opmlWritesWrong : ChangeSpec := { name := "opmlWrites", fn := fun _ => fun
  | [d] => { results := [.lit (.bool false)], args := [d] }
  | _ => none }
def OpmlWritesWrongFalsely : Prop := opmlWritesRow.holds Tryz.pinned (OpenSpec.ofChange opmlWritesWrong)

/-- 'newsstandlaw13.OpmlFeeds': WHATEVER THE INPUT: true; the input reads as it did. -/
def opmlFeedsSpec : ChangeSpec := { name := "opmlFeeds", fn := fun _ => fun
  | [d1, d2] => { results := [.lit (.bool true)], args := [d1, d2] }
  | _ => none }
def opmlFeedsRow : OpenClaim := { program := "ytjgligkejfjbpaagreatdoor", sum := "12fd80409ce62e851b71e710a5aa5238063f1a8f6b13dfdb6623f535b6589b66", func := "newsstand/newsstandlaw13.OpmlFeeds", spec := "opmlFeeds", inPlace := ["internal/bytealg.IndexByteString", "internal/bytealg.IndexString", "internal/abi.NoEscape"], unfollowed := true, recurses := true, named := ["internal/bytealg.MaxLen", "unicode/utf8.first", "unicode/utf8.acceptRanges"], loops := true, apart := false, laid := [("unicode/utf8.acceptRanges", laid_unicode_utf8_acceptRanges), ("unicode/utf8.first", laid_unicode_utf8_first)] }
def OpmlFeedsSaid : Prop := opmlFeedsRow.holds Tryz.pinned (OpenSpec.ofChange opmlFeedsSpec)

/-- ITS FALSE NEIGHBOUR: 'it returns false'. Refute it at one input. -/
def opmlFeedsWrong : ChangeSpec := { name := "opmlFeeds", fn := fun _ => fun
  | [d1, d2] => { results := [.lit (.bool false)], args := [d1, d2] }
  | _ => none }
def OpmlFeedsWrongFalsely : Prop := opmlFeedsRow.holds Tryz.pinned (OpenSpec.ofChange opmlFeedsWrong)

/-- 'newsstandlaw13.OpmlAgain': WHATEVER THE INPUT: true; the input reads as it did. -/
def opmlAgainSpec : ChangeSpec := { name := "opmlAgain", fn := fun _ => fun
  | [d] => { results := [.lit (.bool true)], args := [d] }
  | _ => none }
def opmlAgainRow : OpenClaim := { program := "ytjgligkejfjbpaagreatdoor", sum := "12fd80409ce62e851b71e710a5aa5238063f1a8f6b13dfdb6623f535b6589b66", func := "newsstand/newsstandlaw13.OpmlAgain", spec := "opmlAgain", inPlace := ["internal/bytealg.IndexByteString", "internal/bytealg.IndexString", "internal/abi.NoEscape"], unfollowed := true, recurses := true, named := ["internal/bytealg.MaxLen", "unicode/utf8.first", "unicode/utf8.acceptRanges"], apart := false, laid := [("unicode/utf8.acceptRanges", laid_unicode_utf8_acceptRanges), ("unicode/utf8.first", laid_unicode_utf8_first)] }
def OpmlAgainSaid : Prop := opmlAgainRow.holds Tryz.pinned (OpenSpec.ofChange opmlAgainSpec)

/-- ITS FALSE NEIGHBOUR: 'it returns false'. Refute it at one input. -/
def opmlAgainWrong : ChangeSpec := { name := "opmlAgain", fn := fun _ => fun
  | [d] => { results := [.lit (.bool false)], args := [d] }
  | _ => none }
def OpmlAgainWrongFalsely : Prop := opmlAgainRow.holds Tryz.pinned (OpenSpec.ofChange opmlAgainWrong)

/- THE SECOND FORM. 'bulk': how many values and letters a reading holds, each counted each time it is reached (what is shared counts as often as it is met; a slice's spare places count too). A statement '..UptoSaid' is the law's where the arguments, and the package variables that the reading takes, are together of bulk at most 1048576: NARROWER than '..Said'. Prove '..Said' where nothing that the law and all that it calls make is longer than what came in: it says more and counts as full. Else prove '..UptoSaid'. A law counts once. -/
mutual
def uptoBulk {H : Type} : DataW H → Nat
  | .lit (.string bytes) => bytes.length + 1
  | .lit _ => 1
  | .nil => 1
  | .ptr d => uptoBulk d + 1
  | .slice elems spare => uptoBulkAll elems + uptoBulkAll spare + 1
  | .agg parts => uptoBulkAll parts + 1
  | .iface _ d => uptoBulk d + 1
  | .map entries => uptoBulkEntries entries + 1
  | .held _ => 1
def uptoBulkAll {H : Type} : List (DataW H) → Nat
  | [] => 0
  | d :: r => uptoBulk d + uptoBulkAll r
def uptoBulkEntries {H : Type} : List (Lit × DataW H) → Nat
  | [] => 0
  | x :: r => uptoBulkEntry x + uptoBulkEntries r
def uptoBulkEntry {H : Type} : Lit × DataW H → Nat
  | (.string bytes, d) => bytes.length + uptoBulk d + 1
  | (_, d) => uptoBulk d + 1
 end
def uptoSmall : (H : Type) → List (DataW H) → Bool := fun _ ds => decide (uptoBulkAll ds ≤ 1048576)
def OpenSpec.upto (s : _root_.Go.ChangeSpec) : _root_.Go.OpenSpec := { _root_.Go.OpenSpec.ofChange s with cond := some uptoSmall }

/-- 'newsstandlaw09.TreeParses', WHERE WHAT IT READS IS OF BULK AT MOST 1048576: true; the input reads as it did. -/
def treeParsesUptoRow : OpenClaim := { program := "ytjgligkejfjbpaagreatdoor", sum := "12fd80409ce62e851b71e710a5aa5238063f1a8f6b13dfdb6623f535b6589b66", func := "newsstand/newsstandlaw09.TreeParses", spec := "treeParses", inPlace := ["internal/bytealg.IndexByteString", "internal/bytealg.IndexString", "internal/abi.NoEscape"], unfollowed := true, recurses := true, named := ["internal/bytealg.MaxLen", "unicode/utf8.first", "unicode/utf8.acceptRanges"], apart := false, laid := [("unicode/utf8.acceptRanges", laid_unicode_utf8_acceptRanges), ("unicode/utf8.first", laid_unicode_utf8_first)], narrowed := true }
def TreeParsesUptoSaid : Prop := treeParsesUptoRow.holds Tryz.pinned (OpenSpec.upto treeParsesSpec)

/-- 'newsstandlaw09.TreeLooks', WHERE WHAT IT READS IS OF BULK AT MOST 1048576: true; the input reads as it did. -/
def treeLooksUptoRow : OpenClaim := { program := "ytjgligkejfjbpaagreatdoor", sum := "12fd80409ce62e851b71e710a5aa5238063f1a8f6b13dfdb6623f535b6589b66", func := "newsstand/newsstandlaw09.TreeLooks", spec := "treeLooks", inPlace := ["internal/bytealg.IndexByteString", "internal/bytealg.IndexString", "internal/abi.NoEscape"], unfollowed := true, recurses := true, named := ["internal/bytealg.MaxLen", "unicode/utf8.first", "unicode/utf8.acceptRanges"], loops := true, apart := false, laid := [("unicode/utf8.acceptRanges", laid_unicode_utf8_acceptRanges), ("unicode/utf8.first", laid_unicode_utf8_first)], narrowed := true }
def TreeLooksUptoSaid : Prop := treeLooksUptoRow.holds Tryz.pinned (OpenSpec.upto treeLooksSpec)

/-- 'newsstandlaw13.OpmlReads', WHERE WHAT IT READS IS OF BULK AT MOST 1048576: true; the input reads as it did. -/
def opmlReadsUptoRow : OpenClaim := { program := "ytjgligkejfjbpaagreatdoor", sum := "12fd80409ce62e851b71e710a5aa5238063f1a8f6b13dfdb6623f535b6589b66", func := "newsstand/newsstandlaw13.OpmlReads", spec := "opmlReads", inPlace := ["internal/bytealg.IndexByteString", "internal/bytealg.IndexString", "internal/abi.NoEscape"], unfollowed := true, recurses := true, named := ["internal/bytealg.MaxLen", "unicode/utf8.first", "unicode/utf8.acceptRanges"], apart := false, laid := [("unicode/utf8.acceptRanges", laid_unicode_utf8_acceptRanges), ("unicode/utf8.first", laid_unicode_utf8_first)], narrowed := true }
def OpmlReadsUptoSaid : Prop := opmlReadsUptoRow.holds Tryz.pinned (OpenSpec.upto opmlReadsSpec)

/-- 'newsstandlaw13.OpmlWrites', WHERE WHAT IT READS IS OF BULK AT MOST 1048576: true; the input reads as it did. -/
def opmlWritesUptoRow : OpenClaim := { program := "ytjgligkejfjbpaagreatdoor", sum := "12fd80409ce62e851b71e710a5aa5238063f1a8f6b13dfdb6623f535b6589b66", func := "newsstand/newsstandlaw13.OpmlWrites", spec := "opmlWrites", inPlace := ["internal/bytealg.IndexByteString", "internal/bytealg.IndexString", "internal/abi.NoEscape"], unfollowed := true, recurses := true, named := ["internal/bytealg.MaxLen", "unicode/utf8.first", "unicode/utf8.acceptRanges"], loops := true, apart := false, laid := [("unicode/utf8.acceptRanges", laid_unicode_utf8_acceptRanges), ("unicode/utf8.first", laid_unicode_utf8_first)], narrowed := true }
def OpmlWritesUptoSaid : Prop := opmlWritesUptoRow.holds Tryz.pinned (OpenSpec.upto opmlWritesSpec)

/-- 'newsstandlaw13.OpmlFeeds', WHERE WHAT IT READS IS OF BULK AT MOST 1048576: true; the input reads as it did. -/
def opmlFeedsUptoRow : OpenClaim := { program := "ytjgligkejfjbpaagreatdoor", sum := "12fd80409ce62e851b71e710a5aa5238063f1a8f6b13dfdb6623f535b6589b66", func := "newsstand/newsstandlaw13.OpmlFeeds", spec := "opmlFeeds", inPlace := ["internal/bytealg.IndexByteString", "internal/bytealg.IndexString", "internal/abi.NoEscape"], unfollowed := true, recurses := true, named := ["internal/bytealg.MaxLen", "unicode/utf8.first", "unicode/utf8.acceptRanges"], loops := true, apart := false, laid := [("unicode/utf8.acceptRanges", laid_unicode_utf8_acceptRanges), ("unicode/utf8.first", laid_unicode_utf8_first)], narrowed := true }
def OpmlFeedsUptoSaid : Prop := opmlFeedsUptoRow.holds Tryz.pinned (OpenSpec.upto opmlFeedsSpec)

/-- 'newsstandlaw13.OpmlAgain', WHERE WHAT IT READS IS OF BULK AT MOST 1048576: true; the input reads as it did. -/
def opmlAgainUptoRow : OpenClaim := { program := "ytjgligkejfjbpaagreatdoor", sum := "12fd80409ce62e851b71e710a5aa5238063f1a8f6b13dfdb6623f535b6589b66", func := "newsstand/newsstandlaw13.OpmlAgain", spec := "opmlAgain", inPlace := ["internal/bytealg.IndexByteString", "internal/bytealg.IndexString", "internal/abi.NoEscape"], unfollowed := true, recurses := true, named := ["internal/bytealg.MaxLen", "unicode/utf8.first", "unicode/utf8.acceptRanges"], apart := false, laid := [("unicode/utf8.acceptRanges", laid_unicode_utf8_acceptRanges), ("unicode/utf8.first", laid_unicode_utf8_first)], narrowed := true }
def OpmlAgainUptoSaid : Prop := opmlAgainUptoRow.holds Tryz.pinned (OpenSpec.upto opmlAgainSpec)

end Rows
end Go.Proofs.YtjgligkejfjbpaaGreatDoor
