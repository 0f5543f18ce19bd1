/-
  NARROWER THAN 'FOR EVERY INPUT', by the rows' own cells (each row's printed sentence says how): ExportAgain: loops, laid · ExportKeeps: loops, laid · ExportTells: loops, laid · ExportPlans: loops, laid · ExportBack: laid.
  DERIVED. THE GIVEN ROWS OF THIS SEAT. 5 by the template 'for every input the law returns true; each argument reads behind the call as it read before'; 0 by the template 'total and deterministic' (their statements: YtnolelibaahimaaGreatDoorTotals.lean).
  GIVEN WITH THE SEED: the statements are not yours to turn. If you find one false, say at which input.
  Laid BY PROGRAM, IN A SANDBOX (cutbox-rows.mjs): the forced cells as the released guide's own fill.sh prints them over the translation 6b2c90da27fd4a01… (all of the seat's roots in one cut). By AI agents, Wed Nov 11 2026. No macro, syntax, notation, axiom, sorry.
-/
import Derived.Test.YtnolelibaahimaaGreatDoorChecked
import GoSem.PinnedTables
import GoSem.Claim
import GoSem.ClaimJoined
import GoSem.ClaimMapViews
import Derived.JoinedTies
import Derived.KernelRfl
namespace Go.Proofs.YtnolelibaahimaaGreatDoor
/- THE CELL 'sum', in the pinned program and in every row, IS THE sha256 OF THE DUMP (.gsa) THAT YtnolelibaahimaaGreatDoorProg.lean LOADS. Nothing in Lean hashes anything: it is a label: what it is worth is what the hold of that sum in a sandbox is worth. -/
noncomputable def Tryz.pinned : Pinned := { name := "ytnolelibaahimaagreatdoor", sum := "6b2c90da27fd4a018c37a01a928fea402c1c7ef69ac0be6fdcdd566bbf37f2be", checked := Tryz.checked }
namespace Rows
def none {H : Type} : Left H := { results := [], args := [] }

/- WHAT THE LISTED PACKAGE-LEVEL VARIABLES READ AS WHEN THE CALL BEGINS. Each datum BY PROGRAM (the guide's laid-datum.mjs) off the statement by which the dump's own 'gosem.cut.vars' lays the variable. In a bare row this is a premise. The card (YtnolelibaahimaaGreatDoorCards.lean) ties it to the program's text. -/
def laid_unicode_utf8_acceptRanges {H : Type} : DataW H := .agg [.agg [.lit (.int .u8 128), .lit (.int .u8 191)], .agg [.lit (.int .u8 160), .lit (.int .u8 191)], .agg [.lit (.int .u8 128), .lit (.int .u8 159)], .agg [.lit (.int .u8 144), .lit (.int .u8 191)], .agg [.lit (.int .u8 128), .lit (.int .u8 143)], .agg [.lit (.int .u8 0), .lit (.int .u8 0)], .agg [.lit (.int .u8 0), .lit (.int .u8 0)], .agg [.lit (.int .u8 0), .lit (.int .u8 0)], .agg [.lit (.int .u8 0), .lit (.int .u8 0)], .agg [.lit (.int .u8 0), .lit (.int .u8 0)], .agg [.lit (.int .u8 0), .lit (.int .u8 0)], .agg [.lit (.int .u8 0), .lit (.int .u8 0)], .agg [.lit (.int .u8 0), .lit (.int .u8 0)], .agg [.lit (.int .u8 0), .lit (.int .u8 0)], .agg [.lit (.int .u8 0), .lit (.int .u8 0)], .agg [.lit (.int .u8 0), .lit (.int .u8 0)]]
/-- One of Go's own tables, pinned by name: the form's constant. -/
def laid_unicode_utf8_first : DataW Unit := Go.Pinned.utf8First

/-- 'newsstandlaw24.ExportAgain': WHATEVER THE INPUT: true; the input reads as it did. -/
def exportAgainSpec : ChangeSpec := { name := "exportAgain", fn := fun _ => fun
  | [d1, d2] => { results := [.lit (.bool true)], args := [d1, d2] }
  | _ => none }
def exportAgainRow : OpenClaim := { program := "ytnolelibaahimaagreatdoor", sum := "6b2c90da27fd4a018c37a01a928fea402c1c7ef69ac0be6fdcdd566bbf37f2be", func := "newsstand/newsstandlaw24.ExportAgain", spec := "exportAgain", inPlace := ["internal/abi.NoEscape", "maps.clone", "slices.overlaps[string]", "internal/bytealg.IndexByteString", "internal/bytealg.IndexString"], unfollowed := true, recurses := true, named := ["internal/bytealg.MaxLen", "unicode/utf8.first", "unicode/utf8.acceptRanges"], loops := true, plainKeys := false, apart := false, laid := [("unicode/utf8.acceptRanges", laid_unicode_utf8_acceptRanges), ("unicode/utf8.first", laid_unicode_utf8_first)] }
def ExportAgainSaid : Prop := exportAgainRow.holds Tryz.pinned (OpenSpec.ofChange exportAgainSpec)

/-- ITS FALSE NEIGHBOUR: 'it returns false'. Refute it at one input. -/
def exportAgainWrong : ChangeSpec := { name := "exportAgain", fn := fun _ => fun
  | [d1, d2] => { results := [.lit (.bool false)], args := [d1, d2] }
  | _ => none }
def ExportAgainWrongFalsely : Prop := exportAgainRow.holds Tryz.pinned (OpenSpec.ofChange exportAgainWrong)

/-- 'newsstandlaw24.ExportKeeps': WHATEVER THE INPUT: true; the input reads as it did. -/
def exportKeepsSpec : ChangeSpec := { name := "exportKeeps", fn := fun _ => fun
  | [d1, d2] => { results := [.lit (.bool true)], args := [d1, d2] }
  | _ => none }
def exportKeepsRow : OpenClaim := { program := "ytnolelibaahimaagreatdoor", sum := "6b2c90da27fd4a018c37a01a928fea402c1c7ef69ac0be6fdcdd566bbf37f2be", func := "newsstand/newsstandlaw24.ExportKeeps", spec := "exportKeeps", inPlace := ["internal/abi.NoEscape", "maps.clone", "slices.overlaps[string]", "internal/bytealg.IndexByteString", "internal/bytealg.IndexString"], unfollowed := true, recurses := true, named := ["internal/bytealg.MaxLen", "unicode/utf8.first", "unicode/utf8.acceptRanges"], loops := true, plainKeys := false, apart := false, laid := [("unicode/utf8.acceptRanges", laid_unicode_utf8_acceptRanges), ("unicode/utf8.first", laid_unicode_utf8_first)] }
def ExportKeepsSaid : Prop := exportKeepsRow.holds Tryz.pinned (OpenSpec.ofChange exportKeepsSpec)

/-- ITS FALSE NEIGHBOUR: 'it returns false'. Refute it at one input. -/
def exportKeepsWrong : ChangeSpec := { name := "exportKeeps", fn := fun _ => fun
  | [d1, d2] => { results := [.lit (.bool false)], args := [d1, d2] }
  | _ => none }
def ExportKeepsWrongFalsely : Prop := exportKeepsRow.holds Tryz.pinned (OpenSpec.ofChange exportKeepsWrong)

/-- 'newsstandlaw24.ExportTells': WHATEVER THE INPUT: true; the input reads as it did. -/
def exportTellsSpec : ChangeSpec := { name := "exportTells", fn := fun _ => fun
  | [d1, d2, d3] => { results := [.lit (.bool true)], args := [d1, d2, d3] }
  | _ => none }
def exportTellsRow : OpenClaim := { program := "ytnolelibaahimaagreatdoor", sum := "6b2c90da27fd4a018c37a01a928fea402c1c7ef69ac0be6fdcdd566bbf37f2be", func := "newsstand/newsstandlaw24.ExportTells", spec := "exportTells", inPlace := ["internal/abi.NoEscape", "maps.clone", "slices.overlaps[string]", "internal/bytealg.IndexByteString", "internal/bytealg.IndexString"], unfollowed := true, recurses := true, named := ["internal/bytealg.MaxLen", "unicode/utf8.first", "unicode/utf8.acceptRanges"], loops := true, plainKeys := false, apart := false, laid := [("unicode/utf8.acceptRanges", laid_unicode_utf8_acceptRanges), ("unicode/utf8.first", laid_unicode_utf8_first)] }
def ExportTellsSaid : Prop := exportTellsRow.holds Tryz.pinned (OpenSpec.ofChange exportTellsSpec)

/-- ITS FALSE NEIGHBOUR: 'it returns false'. Refute it at one input. -/
def exportTellsWrong : ChangeSpec := { name := "exportTells", fn := fun _ => fun
  | [d1, d2, d3] => { results := [.lit (.bool false)], args := [d1, d2, d3] }
  | _ => none }
def ExportTellsWrongFalsely : Prop := exportTellsRow.holds Tryz.pinned (OpenSpec.ofChange exportTellsWrong)

/-- 'newsstandlaw24.ExportPlans': WHATEVER THE INPUT: true; the input reads as it did. -/
def exportPlansSpec : ChangeSpec := { name := "exportPlans", fn := fun _ => fun
  | [d1, d2] => { results := [.lit (.bool true)], args := [d1, d2] }
  | _ => none }
def exportPlansRow : OpenClaim := { program := "ytnolelibaahimaagreatdoor", sum := "6b2c90da27fd4a018c37a01a928fea402c1c7ef69ac0be6fdcdd566bbf37f2be", func := "newsstand/newsstandlaw24.ExportPlans", spec := "exportPlans", inPlace := ["internal/abi.NoEscape", "maps.clone", "slices.overlaps[string]", "internal/bytealg.IndexByteString", "internal/bytealg.IndexString"], unfollowed := true, recurses := true, named := ["internal/bytealg.MaxLen", "unicode/utf8.first", "unicode/utf8.acceptRanges"], loops := true, plainKeys := false, apart := false, laid := [("unicode/utf8.acceptRanges", laid_unicode_utf8_acceptRanges), ("unicode/utf8.first", laid_unicode_utf8_first)] }
def ExportPlansSaid : Prop := exportPlansRow.holds Tryz.pinned (OpenSpec.ofChange exportPlansSpec)

/-- ITS FALSE NEIGHBOUR: 'it returns false'. Refute it at one input. -/
def exportPlansWrong : ChangeSpec := { name := "exportPlans", fn := fun _ => fun
  | [d1, d2] => { results := [.lit (.bool false)], args := [d1, d2] }
  | _ => none }
def ExportPlansWrongFalsely : Prop := exportPlansRow.holds Tryz.pinned (OpenSpec.ofChange exportPlansWrong)

/-- 'newsstandlaw24.ExportBack': WHATEVER THE INPUT: true; the input reads as it did. -/
def exportBackSpec : ChangeSpec := { name := "exportBack", fn := fun _ => fun
  | [d] => { results := [.lit (.bool true)], args := [d] }
  | _ => none }
def exportBackRow : OpenClaim := { program := "ytnolelibaahimaagreatdoor", sum := "6b2c90da27fd4a018c37a01a928fea402c1c7ef69ac0be6fdcdd566bbf37f2be", func := "newsstand/newsstandlaw24.ExportBack", spec := "exportBack", inPlace := ["internal/abi.NoEscape", "maps.clone", "slices.overlaps[string]", "internal/bytealg.IndexByteString", "internal/bytealg.IndexString"], unfollowed := true, recurses := true, named := ["internal/bytealg.MaxLen", "unicode/utf8.first", "unicode/utf8.acceptRanges"], plainKeys := false, apart := false, laid := [("unicode/utf8.acceptRanges", laid_unicode_utf8_acceptRanges), ("unicode/utf8.first", laid_unicode_utf8_first)] }
def ExportBackSaid : Prop := exportBackRow.holds Tryz.pinned (OpenSpec.ofChange exportBackSpec)

/-- ITS FALSE NEIGHBOUR: 'it returns false'. Refute it at one input. -/
def exportBackWrong : ChangeSpec := { name := "exportBack", fn := fun _ => fun
  | [d] => { results := [.lit (.bool false)], args := [d] }
  | _ => none }
def ExportBackWrongFalsely : Prop := exportBackRow.holds Tryz.pinned (OpenSpec.ofChange exportBackWrong)

/- THE SECOND FORM. 'bulk': how many values and letters a reading holds, each counted each time it is reached (what is shared counts as often as it is met; a slice's spare places count too). A statement '..UptoSaid' is the law's where the arguments, and the package variables that the reading takes, are together of bulk at most 1048576: NARROWER than '..Said'. Prove '..Said' where nothing that the law and all that it calls make is longer than what came in: it says more and counts as full. Else prove '..UptoSaid'. A law counts once. -/
mutual
def uptoBulk {H : Type} : DataW H → Nat
  | .lit (.string bytes) => bytes.length + 1
  | .lit _ => 1
  | .nil => 1
  | .ptr d => uptoBulk d + 1
  | .slice elems spare => uptoBulkAll elems + uptoBulkAll spare + 1
  | .agg parts => uptoBulkAll parts + 1
  | .iface _ d => uptoBulk d + 1
  | .map entries => uptoBulkEntries entries + 1
  | .held _ => 1
def uptoBulkAll {H : Type} : List (DataW H) → Nat
  | [] => 0
  | d :: r => uptoBulk d + uptoBulkAll r
def uptoBulkEntries {H : Type} : List (Lit × DataW H) → Nat
  | [] => 0
  | x :: r => uptoBulkEntry x + uptoBulkEntries r
def uptoBulkEntry {H : Type} : Lit × DataW H → Nat
  | (.string bytes, d) => bytes.length + uptoBulk d + 1
  | (_, d) => uptoBulk d + 1
 end
def uptoSmall : (H : Type) → List (DataW H) → Bool := fun _ ds => decide (uptoBulkAll ds ≤ 1048576)
def OpenSpec.upto (s : _root_.Go.ChangeSpec) : _root_.Go.OpenSpec := { _root_.Go.OpenSpec.ofChange s with cond := some uptoSmall }

/-- 'newsstandlaw24.ExportAgain', WHERE WHAT IT READS IS OF BULK AT MOST 1048576: true; the input reads as it did. -/
def exportAgainUptoRow : OpenClaim := { program := "ytnolelibaahimaagreatdoor", sum := "6b2c90da27fd4a018c37a01a928fea402c1c7ef69ac0be6fdcdd566bbf37f2be", func := "newsstand/newsstandlaw24.ExportAgain", spec := "exportAgain", inPlace := ["internal/abi.NoEscape", "maps.clone", "slices.overlaps[string]", "internal/bytealg.IndexByteString", "internal/bytealg.IndexString"], unfollowed := true, recurses := true, named := ["internal/bytealg.MaxLen", "unicode/utf8.first", "unicode/utf8.acceptRanges"], loops := true, plainKeys := false, apart := false, laid := [("unicode/utf8.acceptRanges", laid_unicode_utf8_acceptRanges), ("unicode/utf8.first", laid_unicode_utf8_first)], narrowed := true }
def ExportAgainUptoSaid : Prop := exportAgainUptoRow.holds Tryz.pinned (OpenSpec.upto exportAgainSpec)

/-- 'newsstandlaw24.ExportKeeps', WHERE WHAT IT READS IS OF BULK AT MOST 1048576: true; the input reads as it did. -/
def exportKeepsUptoRow : OpenClaim := { program := "ytnolelibaahimaagreatdoor", sum := "6b2c90da27fd4a018c37a01a928fea402c1c7ef69ac0be6fdcdd566bbf37f2be", func := "newsstand/newsstandlaw24.ExportKeeps", spec := "exportKeeps", inPlace := ["internal/abi.NoEscape", "maps.clone", "slices.overlaps[string]", "internal/bytealg.IndexByteString", "internal/bytealg.IndexString"], unfollowed := true, recurses := true, named := ["internal/bytealg.MaxLen", "unicode/utf8.first", "unicode/utf8.acceptRanges"], loops := true, plainKeys := false, apart := false, laid := [("unicode/utf8.acceptRanges", laid_unicode_utf8_acceptRanges), ("unicode/utf8.first", laid_unicode_utf8_first)], narrowed := true }
def ExportKeepsUptoSaid : Prop := exportKeepsUptoRow.holds Tryz.pinned (OpenSpec.upto exportKeepsSpec)

/-- 'newsstandlaw24.ExportTells', WHERE WHAT IT READS IS OF BULK AT MOST 1048576: true; the input reads as it did. -/
def exportTellsUptoRow : OpenClaim := { program := "ytnolelibaahimaagreatdoor", sum := "6b2c90da27fd4a018c37a01a928fea402c1c7ef69ac0be6fdcdd566bbf37f2be", func := "newsstand/newsstandlaw24.ExportTells", spec := "exportTells", inPlace := ["internal/abi.NoEscape", "maps.clone", "slices.overlaps[string]", "internal/bytealg.IndexByteString", "internal/bytealg.IndexString"], unfollowed := true, recurses := true, named := ["internal/bytealg.MaxLen", "unicode/utf8.first", "unicode/utf8.acceptRanges"], loops := true, plainKeys := false, apart := false, laid := [("unicode/utf8.acceptRanges", laid_unicode_utf8_acceptRanges), ("unicode/utf8.first", laid_unicode_utf8_first)], narrowed := true }
def ExportTellsUptoSaid : Prop := exportTellsUptoRow.holds Tryz.pinned (OpenSpec.upto exportTellsSpec)

/-- 'newsstandlaw24.ExportPlans', WHERE WHAT IT READS IS OF BULK AT MOST 1048576: true; the input reads as it did. -/
def exportPlansUptoRow : OpenClaim := { program := "ytnolelibaahimaagreatdoor", sum := "6b2c90da27fd4a018c37a01a928fea402c1c7ef69ac0be6fdcdd566bbf37f2be", func := "newsstand/newsstandlaw24.ExportPlans", spec := "exportPlans", inPlace := ["internal/abi.NoEscape", "maps.clone", "slices.overlaps[string]", "internal/bytealg.IndexByteString", "internal/bytealg.IndexString"], unfollowed := true, recurses := true, named := ["internal/bytealg.MaxLen", "unicode/utf8.first", "unicode/utf8.acceptRanges"], loops := true, plainKeys := false, apart := false, laid := [("unicode/utf8.acceptRanges", laid_unicode_utf8_acceptRanges), ("unicode/utf8.first", laid_unicode_utf8_first)], narrowed := true }
def ExportPlansUptoSaid : Prop := exportPlansUptoRow.holds Tryz.pinned (OpenSpec.upto exportPlansSpec)

/-- 'newsstandlaw24.ExportBack', WHERE WHAT IT READS IS OF BULK AT MOST 1048576: true; the input reads as it did. -/
def exportBackUptoRow : OpenClaim := { program := "ytnolelibaahimaagreatdoor", sum := "6b2c90da27fd4a018c37a01a928fea402c1c7ef69ac0be6fdcdd566bbf37f2be", func := "newsstand/newsstandlaw24.ExportBack", spec := "exportBack", inPlace := ["internal/abi.NoEscape", "maps.clone", "slices.overlaps[string]", "internal/bytealg.IndexByteString", "internal/bytealg.IndexString"], unfollowed := true, recurses := true, named := ["internal/bytealg.MaxLen", "unicode/utf8.first", "unicode/utf8.acceptRanges"], plainKeys := false, apart := false, laid := [("unicode/utf8.acceptRanges", laid_unicode_utf8_acceptRanges), ("unicode/utf8.first", laid_unicode_utf8_first)], narrowed := true }
def ExportBackUptoSaid : Prop := exportBackUptoRow.holds Tryz.pinned (OpenSpec.upto exportBackSpec)

end Rows
end Go.Proofs.YtnolelibaahimaaGreatDoor
