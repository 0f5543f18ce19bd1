/-
  NARROWER THAN 'FOR EVERY INPUT', by the rows' own cells (each row's printed sentence says how): FeedParses: laid · IngestNobody: laid · IngestOf: laid · IngestAll: laid · IngestFits: laid.
  DERIVED. THE GIVEN ROWS OF THIS SEAT. 5 by the template 'for every input the law returns true; each argument reads behind the call as it read before'; 0 by the template 'total and deterministic' (their statements: YtjfjncmgclaokaaGreatDoorTotals.lean).
  GIVEN WITH THE SEED: the statements are not yours to turn. If you find one false, say at which input.
  Laid BY PROGRAM, IN A SANDBOX (cutbox-rows.mjs): the forced cells as the released guide's own fill.sh prints them over the translation 60308c558d7d52bd… (all of the seat's roots in one cut). By AI agents, Wed Nov 11 2026. No macro, syntax, notation, axiom, sorry.
-/
import Derived.Test.YtjfjncmgclaokaaGreatDoorChecked
import GoSem.PinnedTables
import GoSem.Claim
import GoSem.ClaimJoined
import GoSem.ClaimMapViews
import Derived.JoinedTies
import Derived.KernelRfl
namespace Go.Proofs.YtjfjncmgclaokaaGreatDoor
/- THE CELL 'sum', in the pinned program and in every row, IS THE sha256 OF THE DUMP (.gsa) THAT YtjfjncmgclaokaaGreatDoorProg.lean LOADS. Nothing in Lean hashes anything: it is a label: what it is worth is what the hold of that sum in a sandbox is worth. -/
noncomputable def Tryz.pinned : Pinned := { name := "ytjfjncmgclaokaagreatdoor", sum := "60308c558d7d52bd960d9efd268fe85a67fdad179ed2f743d0a2c06262458bad", checked := Tryz.checked }
namespace Rows
def none {H : Type} : Left H := { results := [], args := [] }

/- WHAT THE LISTED PACKAGE-LEVEL VARIABLES READ AS WHEN THE CALL BEGINS. Each datum BY PROGRAM (the guide's laid-datum.mjs) off the statement by which the dump's own 'gosem.cut.vars' lays the variable. In a bare row this is a premise. The card (YtjfjncmgclaokaaGreatDoorCards.lean) ties it to the program's text. -/
def laid_unicode_utf8_acceptRanges {H : Type} : DataW H := .agg [.agg [.lit (.int .u8 128), .lit (.int .u8 191)], .agg [.lit (.int .u8 160), .lit (.int .u8 191)], .agg [.lit (.int .u8 128), .lit (.int .u8 159)], .agg [.lit (.int .u8 144), .lit (.int .u8 191)], .agg [.lit (.int .u8 128), .lit (.int .u8 143)], .agg [.lit (.int .u8 0), .lit (.int .u8 0)], .agg [.lit (.int .u8 0), .lit (.int .u8 0)], .agg [.lit (.int .u8 0), .lit (.int .u8 0)], .agg [.lit (.int .u8 0), .lit (.int .u8 0)], .agg [.lit (.int .u8 0), .lit (.int .u8 0)], .agg [.lit (.int .u8 0), .lit (.int .u8 0)], .agg [.lit (.int .u8 0), .lit (.int .u8 0)], .agg [.lit (.int .u8 0), .lit (.int .u8 0)], .agg [.lit (.int .u8 0), .lit (.int .u8 0)], .agg [.lit (.int .u8 0), .lit (.int .u8 0)], .agg [.lit (.int .u8 0), .lit (.int .u8 0)]]
/-- One of Go's own tables, pinned by name: the form's constant. -/
def laid_unicode_utf8_first : DataW Unit := Go.Pinned.utf8First

/-- 'newsstandlaw12.FeedParses': WHATEVER THE INPUT: true; the input reads as it did. -/
def feedParsesSpec : ChangeSpec := { name := "feedParses", fn := fun _ => fun
  | [d] => { results := [.lit (.bool true)], args := [d] }
  | _ => none }
def feedParsesRow : OpenClaim := { program := "ytjfjncmgclaokaagreatdoor", sum := "60308c558d7d52bd960d9efd268fe85a67fdad179ed2f743d0a2c06262458bad", func := "newsstand/newsstandlaw12.FeedParses", spec := "feedParses", inPlace := ["internal/bytealg.IndexByteString", "internal/bytealg.IndexString", "internal/abi.NoEscape", "internal/bytealg.CountString", "internal/bytealg.MakeNoZero"], unfollowed := true, recurses := true, named := ["internal/bytealg.MaxLen", "unicode/utf8.first", "unicode/utf8.acceptRanges"], plainKeys := false, apart := false, laid := [("unicode/utf8.acceptRanges", laid_unicode_utf8_acceptRanges), ("unicode/utf8.first", laid_unicode_utf8_first)] }
def FeedParsesSaid : Prop := feedParsesRow.holds Tryz.pinned (OpenSpec.ofChange feedParsesSpec)

/-- ITS FALSE NEIGHBOUR: 'it returns false'. Refute it at one input. -/
def feedParsesWrong : ChangeSpec := { name := "feedParses", fn := fun _ => fun
  | [d] => { results := [.lit (.bool false)], args := [d] }
  | _ => none }
def FeedParsesWrongFalsely : Prop := feedParsesRow.holds Tryz.pinned (OpenSpec.ofChange feedParsesWrong)

/-- 'newsstandlaw23.IngestNobody': WHATEVER THE INPUT: true; the input reads as it did. -/
def ingestNobodySpec : ChangeSpec := { name := "ingestNobody", fn := fun _ => fun
  | [d1, d2, d3] => { results := [.lit (.bool true)], args := [d1, d2, d3] }
  | _ => none }
def ingestNobodyRow : OpenClaim := { program := "ytjfjncmgclaokaagreatdoor", sum := "60308c558d7d52bd960d9efd268fe85a67fdad179ed2f743d0a2c06262458bad", func := "newsstand/newsstandlaw23.IngestNobody", spec := "ingestNobody", inPlace := ["internal/abi.NoEscape", "slices.overlaps[string]", "internal/bytealg.IndexByteString", "internal/bytealg.IndexString", "internal/bytealg.CountString"], unfollowed := true, recurses := true, named := ["internal/bytealg.MaxLen", "unicode/utf8.first", "unicode/utf8.acceptRanges"], plainKeys := false, apart := false, laid := [("unicode/utf8.acceptRanges", laid_unicode_utf8_acceptRanges), ("unicode/utf8.first", laid_unicode_utf8_first)] }
def IngestNobodySaid : Prop := ingestNobodyRow.holds Tryz.pinned (OpenSpec.ofChange ingestNobodySpec)

/-- ITS FALSE NEIGHBOUR: 'it returns false'. Refute it at one input. -/
def ingestNobodyWrong : ChangeSpec := { name := "ingestNobody", fn := fun _ => fun
  | [d1, d2, d3] => { results := [.lit (.bool false)], args := [d1, d2, d3] }
  | _ => none }
def IngestNobodyWrongFalsely : Prop := ingestNobodyRow.holds Tryz.pinned (OpenSpec.ofChange ingestNobodyWrong)

/-- 'newsstandlaw23.IngestOf': WHATEVER THE INPUT: true; the input reads as it did. -/
def ingestOfSpec : ChangeSpec := { name := "ingestOf", fn := fun _ => fun
  | [d1, d2, d3] => { results := [.lit (.bool true)], args := [d1, d2, d3] }
  | _ => none }
def ingestOfRow : OpenClaim := { program := "ytjfjncmgclaokaagreatdoor", sum := "60308c558d7d52bd960d9efd268fe85a67fdad179ed2f743d0a2c06262458bad", func := "newsstand/newsstandlaw23.IngestOf", spec := "ingestOf", inPlace := ["internal/abi.NoEscape", "slices.overlaps[string]", "internal/bytealg.IndexByteString", "internal/bytealg.IndexString", "internal/bytealg.CountString"], unfollowed := true, recurses := true, named := ["internal/bytealg.MaxLen", "unicode/utf8.first", "unicode/utf8.acceptRanges"], plainKeys := false, apart := false, laid := [("unicode/utf8.acceptRanges", laid_unicode_utf8_acceptRanges), ("unicode/utf8.first", laid_unicode_utf8_first)] }
def IngestOfSaid : Prop := ingestOfRow.holds Tryz.pinned (OpenSpec.ofChange ingestOfSpec)

/-- ITS FALSE NEIGHBOUR: 'it returns false'. Refute it at one input. -/
def ingestOfWrong : ChangeSpec := { name := "ingestOf", fn := fun _ => fun
  | [d1, d2, d3] => { results := [.lit (.bool false)], args := [d1, d2, d3] }
  | _ => none }
def IngestOfWrongFalsely : Prop := ingestOfRow.holds Tryz.pinned (OpenSpec.ofChange ingestOfWrong)

/-- 'newsstandlaw23.IngestAll': WHATEVER THE INPUT: true; the input reads as it did. -/
def ingestAllSpec : ChangeSpec := { name := "ingestAll", fn := fun _ => fun
  | [d1, d2, d3] => { results := [.lit (.bool true)], args := [d1, d2, d3] }
  | _ => none }
def ingestAllRow : OpenClaim := { program := "ytjfjncmgclaokaagreatdoor", sum := "60308c558d7d52bd960d9efd268fe85a67fdad179ed2f743d0a2c06262458bad", func := "newsstand/newsstandlaw23.IngestAll", spec := "ingestAll", inPlace := ["internal/abi.NoEscape", "slices.overlaps[string]", "internal/bytealg.IndexByteString", "internal/bytealg.IndexString", "internal/bytealg.CountString"], unfollowed := true, recurses := true, named := ["internal/bytealg.MaxLen", "unicode/utf8.first", "unicode/utf8.acceptRanges"], plainKeys := false, apart := false, laid := [("unicode/utf8.acceptRanges", laid_unicode_utf8_acceptRanges), ("unicode/utf8.first", laid_unicode_utf8_first)] }
def IngestAllSaid : Prop := ingestAllRow.holds Tryz.pinned (OpenSpec.ofChange ingestAllSpec)

/-- ITS FALSE NEIGHBOUR: 'it returns false'. Refute it at one input. -/
def ingestAllWrong : ChangeSpec := { name := "ingestAll", fn := fun _ => fun
  | [d1, d2, d3] => { results := [.lit (.bool false)], args := [d1, d2, d3] }
  | _ => none }
def IngestAllWrongFalsely : Prop := ingestAllRow.holds Tryz.pinned (OpenSpec.ofChange ingestAllWrong)

/-- 'newsstandlaw23.IngestFits': WHATEVER THE INPUT: true; the input reads as it did. -/
def ingestFitsSpec : ChangeSpec := { name := "ingestFits", fn := fun _ => fun
  | [d1, d2, d3] => { results := [.lit (.bool true)], args := [d1, d2, d3] }
  | _ => none }
def ingestFitsRow : OpenClaim := { program := "ytjfjncmgclaokaagreatdoor", sum := "60308c558d7d52bd960d9efd268fe85a67fdad179ed2f743d0a2c06262458bad", func := "newsstand/newsstandlaw23.IngestFits", spec := "ingestFits", inPlace := ["internal/abi.NoEscape", "slices.overlaps[string]", "internal/bytealg.IndexByteString", "internal/bytealg.IndexString", "internal/bytealg.CountString"], unfollowed := true, recurses := true, named := ["internal/bytealg.MaxLen", "unicode/utf8.first", "unicode/utf8.acceptRanges"], plainKeys := false, apart := false, laid := [("unicode/utf8.acceptRanges", laid_unicode_utf8_acceptRanges), ("unicode/utf8.first", laid_unicode_utf8_first)] }
def IngestFitsSaid : Prop := ingestFitsRow.holds Tryz.pinned (OpenSpec.ofChange ingestFitsSpec)

/-- ITS FALSE NEIGHBOUR: 'it returns false'. Refute it at one input. -/
def ingestFitsWrong : ChangeSpec := { name := "ingestFits", fn := fun _ => fun
  | [d1, d2, d3] => { results := [.lit (.bool false)], args := [d1, d2, d3] }
  | _ => none }
def IngestFitsWrongFalsely : Prop := ingestFitsRow.holds Tryz.pinned (OpenSpec.ofChange ingestFitsWrong)

/- THE SECOND FORM. 'bulk': how many values and letters a reading holds, each counted each time it is reached (what is shared counts as often as it is met; a slice's spare places count too). A statement '..UptoSaid' is the law's where the arguments, and the package variables that the reading takes, are together of bulk at most 1048576: NARROWER than '..Said'. Prove '..Said' where nothing that the law and all that it calls make is longer than what came in: it says more and counts as full. Else prove '..UptoSaid'. A law counts once. -/
mutual
def uptoBulk {H : Type} : DataW H → Nat
  | .lit (.string bytes) => bytes.length + 1
  | .lit _ => 1
  | .nil => 1
  | .ptr d => uptoBulk d + 1
  | .slice elems spare => uptoBulkAll elems + uptoBulkAll spare + 1
  | .agg parts => uptoBulkAll parts + 1
  | .iface _ d => uptoBulk d + 1
  | .map entries => uptoBulkEntries entries + 1
  | .held _ => 1
def uptoBulkAll {H : Type} : List (DataW H) → Nat
  | [] => 0
  | d :: r => uptoBulk d + uptoBulkAll r
def uptoBulkEntries {H : Type} : List (Lit × DataW H) → Nat
  | [] => 0
  | x :: r => uptoBulkEntry x + uptoBulkEntries r
def uptoBulkEntry {H : Type} : Lit × DataW H → Nat
  | (.string bytes, d) => bytes.length + uptoBulk d + 1
  | (_, d) => uptoBulk d + 1
 end
def uptoSmall : (H : Type) → List (DataW H) → Bool := fun _ ds => decide (uptoBulkAll ds ≤ 1048576)
def OpenSpec.upto (s : _root_.Go.ChangeSpec) : _root_.Go.OpenSpec := { _root_.Go.OpenSpec.ofChange s with cond := some uptoSmall }

/-- 'newsstandlaw12.FeedParses', WHERE WHAT IT READS IS OF BULK AT MOST 1048576: true; the input reads as it did. -/
def feedParsesUptoRow : OpenClaim := { program := "ytjfjncmgclaokaagreatdoor", sum := "60308c558d7d52bd960d9efd268fe85a67fdad179ed2f743d0a2c06262458bad", func := "newsstand/newsstandlaw12.FeedParses", spec := "feedParses", inPlace := ["internal/bytealg.IndexByteString", "internal/bytealg.IndexString", "internal/abi.NoEscape", "internal/bytealg.CountString", "internal/bytealg.MakeNoZero"], unfollowed := true, recurses := true, named := ["internal/bytealg.MaxLen", "unicode/utf8.first", "unicode/utf8.acceptRanges"], plainKeys := false, apart := false, laid := [("unicode/utf8.acceptRanges", laid_unicode_utf8_acceptRanges), ("unicode/utf8.first", laid_unicode_utf8_first)], narrowed := true }
def FeedParsesUptoSaid : Prop := feedParsesUptoRow.holds Tryz.pinned (OpenSpec.upto feedParsesSpec)

/-- 'newsstandlaw23.IngestNobody', WHERE WHAT IT READS IS OF BULK AT MOST 1048576: true; the input reads as it did. -/
def ingestNobodyUptoRow : OpenClaim := { program := "ytjfjncmgclaokaagreatdoor", sum := "60308c558d7d52bd960d9efd268fe85a67fdad179ed2f743d0a2c06262458bad", func := "newsstand/newsstandlaw23.IngestNobody", spec := "ingestNobody", inPlace := ["internal/abi.NoEscape", "slices.overlaps[string]", "internal/bytealg.IndexByteString", "internal/bytealg.IndexString", "internal/bytealg.CountString"], unfollowed := true, recurses := true, named := ["internal/bytealg.MaxLen", "unicode/utf8.first", "unicode/utf8.acceptRanges"], plainKeys := false, apart := false, laid := [("unicode/utf8.acceptRanges", laid_unicode_utf8_acceptRanges), ("unicode/utf8.first", laid_unicode_utf8_first)], narrowed := true }
def IngestNobodyUptoSaid : Prop := ingestNobodyUptoRow.holds Tryz.pinned (OpenSpec.upto ingestNobodySpec)

/-- 'newsstandlaw23.IngestOf', WHERE WHAT IT READS IS OF BULK AT MOST 1048576: true; the input reads as it did. -/
def ingestOfUptoRow : OpenClaim := { program := "ytjfjncmgclaokaagreatdoor", sum := "60308c558d7d52bd960d9efd268fe85a67fdad179ed2f743d0a2c06262458bad", func := "newsstand/newsstandlaw23.IngestOf", spec := "ingestOf", inPlace := ["internal/abi.NoEscape", "slices.overlaps[string]", "internal/bytealg.IndexByteString", "internal/bytealg.IndexString", "internal/bytealg.CountString"], unfollowed := true, recurses := true, named := ["internal/bytealg.MaxLen", "unicode/utf8.first", "unicode/utf8.acceptRanges"], plainKeys := false, apart := false, laid := [("unicode/utf8.acceptRanges", laid_unicode_utf8_acceptRanges), ("unicode/utf8.first", laid_unicode_utf8_first)], narrowed := true }
def IngestOfUptoSaid : Prop := ingestOfUptoRow.holds Tryz.pinned (OpenSpec.upto ingestOfSpec)

/-- 'newsstandlaw23.IngestAll', WHERE WHAT IT READS IS OF BULK AT MOST 1048576: true; the input reads as it did. -/
def ingestAllUptoRow : OpenClaim := { program := "ytjfjncmgclaokaagreatdoor", sum := "60308c558d7d52bd960d9efd268fe85a67fdad179ed2f743d0a2c06262458bad", func := "newsstand/newsstandlaw23.IngestAll", spec := "ingestAll", inPlace := ["internal/abi.NoEscape", "slices.overlaps[string]", "internal/bytealg.IndexByteString", "internal/bytealg.IndexString", "internal/bytealg.CountString"], unfollowed := true, recurses := true, named := ["internal/bytealg.MaxLen", "unicode/utf8.first", "unicode/utf8.acceptRanges"], plainKeys := false, apart := false, laid := [("unicode/utf8.acceptRanges", laid_unicode_utf8_acceptRanges), ("unicode/utf8.first", laid_unicode_utf8_first)], narrowed := true }
def IngestAllUptoSaid : Prop := ingestAllUptoRow.holds Tryz.pinned (OpenSpec.upto ingestAllSpec)

/-- 'newsstandlaw23.IngestFits', WHERE WHAT IT READS IS OF BULK AT MOST 1048576: true; the input reads as it did. -/
def ingestFitsUptoRow : OpenClaim := { program := "ytjfjncmgclaokaagreatdoor", sum := "60308c558d7d52bd960d9efd268fe85a67fdad179ed2f743d0a2c06262458bad", func := "newsstand/newsstandlaw23.IngestFits", spec := "ingestFits", inPlace := ["internal/abi.NoEscape", "slices.overlaps[string]", "internal/bytealg.IndexByteString", "internal/bytealg.IndexString", "internal/bytealg.CountString"], unfollowed := true, recurses := true, named := ["internal/bytealg.MaxLen", "unicode/utf8.first", "unicode/utf8.acceptRanges"], plainKeys := false, apart := false, laid := [("unicode/utf8.acceptRanges", laid_unicode_utf8_acceptRanges), ("unicode/utf8.first", laid_unicode_utf8_first)], narrowed := true }
def IngestFitsUptoSaid : Prop := ingestFitsUptoRow.holds Tryz.pinned (OpenSpec.upto ingestFitsSpec)

end Rows
end Go.Proofs.YtjfjncmgclaokaaGreatDoor
