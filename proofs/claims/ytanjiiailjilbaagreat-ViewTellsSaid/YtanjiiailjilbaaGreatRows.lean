/-
  NARROWER THAN 'FOR EVERY INPUT', by the rows' own cells (each row's printed sentence says how): ViewAsks: loops · ViewSteady: loops.
  DERIVED. THE GIVEN ROWS OF THIS SEAT. 7 by the template 'for every input the law returns true; each argument reads behind the call as it read before'; 0 by the template 'total and deterministic' (their statements: YtanjiiailjilbaaGreatTotals.lean).
  GIVEN WITH THE SEED: the statements are not yours to turn. If you find one false, say at which input.
  Laid BY PROGRAM, IN A SANDBOX (cutbox-rows.mjs): the forced cells as the released guide's own fill.sh prints them over the translation 148d9e90d2b4fcc0… (all of the seat's roots in one cut). By AI agents, Wed Nov 11 2026. No macro, syntax, notation, axiom, sorry.
-/
import Derived.Test.YtanjiiailjilbaaGreatChecked
import GoSem.Claim
import GoSem.ClaimJoined
import GoSem.ClaimMapViews
import Derived.JoinedTies
import Derived.KernelRfl
namespace Go.Proofs.YtanjiiailjilbaaGreat
/- THE CELL 'sum', in the pinned program and in every row, IS THE sha256 OF THE DUMP (.gsa) THAT YtanjiiailjilbaaGreatProg.lean LOADS. Nothing in Lean hashes anything: it is a label: what it is worth is what the hold of that sum in a sandbox is worth. -/
noncomputable def Tryz.pinned : Pinned := { name := "ytanjiiailjilbaagreat", sum := "148d9e90d2b4fcc0e4f89c9b1a2ffa09770cd670f8f303d2dd7967aa158898d4", checked := Tryz.checked }
namespace Rows
def none {H : Type} : Left H := { results := [], args := [] }

/-- 'newsstandlaw28.CountTells': WHATEVER THE INPUT: true; the input reads as it did. -/
def countTellsSpec : ChangeSpec := { name := "countTells", fn := fun _ => fun
  | [d1, d2, d3, d4] => { results := [.lit (.bool true)], args := [d1, d2, d3, d4] }
  | _ => none }
def countTellsRow : OpenClaim := { program := "ytanjiiailjilbaagreat", sum := "148d9e90d2b4fcc0e4f89c9b1a2ffa09770cd670f8f303d2dd7967aa158898d4", func := "newsstand/newsstandlaw28.CountTells", spec := "countTells", inPlace := ["internal/abi.NoEscape", "slices.overlaps[string]"], unfollowed := true, recurses := true, plainKeys := false, apart := false }
def CountTellsSaid : Prop := countTellsRow.holds Tryz.pinned (OpenSpec.ofChange countTellsSpec)

/-- ITS FALSE NEIGHBOUR: 'it returns false'. Refute it at one input. -/
def countTellsWrong : ChangeSpec := { name := "countTells", fn := fun _ => fun
  | [d1, d2, d3, d4] => { results := [.lit (.bool false)], args := [d1, d2, d3, d4] }
  | _ => none }
def CountTellsWrongFalsely : Prop := countTellsRow.holds Tryz.pinned (OpenSpec.ofChange countTellsWrong)

/-- 'newsstandlaw28.CountKept': WHATEVER THE INPUT: true; the input reads as it did. -/
def countKeptSpec : ChangeSpec := { name := "countKept", fn := fun _ => fun
  | [d1, d2] => { results := [.lit (.bool true)], args := [d1, d2] }
  | _ => none }
def countKeptRow : OpenClaim := { program := "ytanjiiailjilbaagreat", sum := "148d9e90d2b4fcc0e4f89c9b1a2ffa09770cd670f8f303d2dd7967aa158898d4", func := "newsstand/newsstandlaw28.CountKept", spec := "countKept", inPlace := ["internal/abi.NoEscape", "slices.overlaps[string]"], unfollowed := true, recurses := true, plainKeys := false, apart := false }
def CountKeptSaid : Prop := countKeptRow.holds Tryz.pinned (OpenSpec.ofChange countKeptSpec)

/-- ITS FALSE NEIGHBOUR: 'it returns false'. Refute it at one input. -/
def countKeptWrong : ChangeSpec := { name := "countKept", fn := fun _ => fun
  | [d1, d2] => { results := [.lit (.bool false)], args := [d1, d2] }
  | _ => none }
def CountKeptWrongFalsely : Prop := countKeptRow.holds Tryz.pinned (OpenSpec.ofChange countKeptWrong)

/-- 'newsstandlaw28.CountSums': WHATEVER THE INPUT: true; the input reads as it did. -/
def countSumsSpec : ChangeSpec := { name := "countSums", fn := fun _ => fun
  | [d] => { results := [.lit (.bool true)], args := [d] }
  | _ => none }
def countSumsRow : OpenClaim := { program := "ytanjiiailjilbaagreat", sum := "148d9e90d2b4fcc0e4f89c9b1a2ffa09770cd670f8f303d2dd7967aa158898d4", func := "newsstand/newsstandlaw28.CountSums", spec := "countSums", inPlace := ["internal/abi.NoEscape", "slices.overlaps[string]"], unfollowed := true, recurses := true, plainKeys := false, apart := false }
def CountSumsSaid : Prop := countSumsRow.holds Tryz.pinned (OpenSpec.ofChange countSumsSpec)

/-- ITS FALSE NEIGHBOUR: 'it returns false'. Refute it at one input. -/
def countSumsWrong : ChangeSpec := { name := "countSums", fn := fun _ => fun
  | [d] => { results := [.lit (.bool false)], args := [d] }
  | _ => none }
def CountSumsWrongFalsely : Prop := countSumsRow.holds Tryz.pinned (OpenSpec.ofChange countSumsWrong)

/-- 'newsstandlaw31.ViewTells': WHATEVER THE INPUT: true; the input reads as it did. -/
def viewTellsSpec : ChangeSpec := { name := "viewTells", fn := fun _ => fun
  | [d1, d2, d3, d4] => { results := [.lit (.bool true)], args := [d1, d2, d3, d4] }
  | _ => none }
def viewTellsRow : OpenClaim := { program := "ytanjiiailjilbaagreat", sum := "148d9e90d2b4fcc0e4f89c9b1a2ffa09770cd670f8f303d2dd7967aa158898d4", func := "newsstand/newsstandlaw31.ViewTells", spec := "viewTells", inPlace := ["internal/abi.NoEscape", "slices.overlaps[string]", "slices.overlaps[newsstand/view.key]"], unfollowed := true, recurses := true, plainKeys := false, apart := false }
def ViewTellsSaid : Prop := viewTellsRow.holds Tryz.pinned (OpenSpec.ofChange viewTellsSpec)

/-- ITS FALSE NEIGHBOUR: 'it returns false'. Refute it at one input. -/
def viewTellsWrong : ChangeSpec := { name := "viewTells", fn := fun _ => fun
  | [d1, d2, d3, d4] => { results := [.lit (.bool false)], args := [d1, d2, d3, d4] }
  | _ => none }
def ViewTellsWrongFalsely : Prop := viewTellsRow.holds Tryz.pinned (OpenSpec.ofChange viewTellsWrong)

/-- 'newsstandlaw31.ViewAsks': WHATEVER THE INPUT: true; the input reads as it did. -/
def viewAsksSpec : ChangeSpec := { name := "viewAsks", fn := fun _ => fun
  | [d1, d2, d3, d4, d5] => { results := [.lit (.bool true)], args := [d1, d2, d3, d4, d5] }
  | _ => none }
def viewAsksRow : OpenClaim := { program := "ytanjiiailjilbaagreat", sum := "148d9e90d2b4fcc0e4f89c9b1a2ffa09770cd670f8f303d2dd7967aa158898d4", func := "newsstand/newsstandlaw31.ViewAsks", spec := "viewAsks", inPlace := ["internal/abi.NoEscape", "slices.overlaps[string]", "slices.overlaps[newsstand/view.key]"], unfollowed := true, recurses := true, loops := true, plainKeys := false, apart := false }
def ViewAsksSaid : Prop := viewAsksRow.holds Tryz.pinned (OpenSpec.ofChange viewAsksSpec)

/-- ITS FALSE NEIGHBOUR: 'it returns false'. Refute it at one input. -/
def viewAsksWrong : ChangeSpec := { name := "viewAsks", fn := fun _ => fun
  | [d1, d2, d3, d4, d5] => { results := [.lit (.bool false)], args := [d1, d2, d3, d4, d5] }
  | _ => none }
def ViewAsksWrongFalsely : Prop := viewAsksRow.holds Tryz.pinned (OpenSpec.ofChange viewAsksWrong)

/-- 'newsstandlaw31.ViewKept': WHATEVER THE INPUT: true; the input reads as it did. -/
def viewKeptSpec : ChangeSpec := { name := "viewKept", fn := fun _ => fun
  | [d1, d2, d3] => { results := [.lit (.bool true)], args := [d1, d2, d3] }
  | _ => none }
def viewKeptRow : OpenClaim := { program := "ytanjiiailjilbaagreat", sum := "148d9e90d2b4fcc0e4f89c9b1a2ffa09770cd670f8f303d2dd7967aa158898d4", func := "newsstand/newsstandlaw31.ViewKept", spec := "viewKept", inPlace := ["internal/abi.NoEscape", "slices.overlaps[string]", "slices.overlaps[newsstand/view.key]"], unfollowed := true, recurses := true, plainKeys := false, apart := false }
def ViewKeptSaid : Prop := viewKeptRow.holds Tryz.pinned (OpenSpec.ofChange viewKeptSpec)

/-- ITS FALSE NEIGHBOUR: 'it returns false'. Refute it at one input. -/
def viewKeptWrong : ChangeSpec := { name := "viewKept", fn := fun _ => fun
  | [d1, d2, d3] => { results := [.lit (.bool false)], args := [d1, d2, d3] }
  | _ => none }
def ViewKeptWrongFalsely : Prop := viewKeptRow.holds Tryz.pinned (OpenSpec.ofChange viewKeptWrong)

/-- 'newsstandlaw31.ViewSteady': WHATEVER THE INPUT: true; the input reads as it did. -/
def viewSteadySpec : ChangeSpec := { name := "viewSteady", fn := fun _ => fun
  | [d1, d2, d3, d4, d5] => { results := [.lit (.bool true)], args := [d1, d2, d3, d4, d5] }
  | _ => none }
def viewSteadyRow : OpenClaim := { program := "ytanjiiailjilbaagreat", sum := "148d9e90d2b4fcc0e4f89c9b1a2ffa09770cd670f8f303d2dd7967aa158898d4", func := "newsstand/newsstandlaw31.ViewSteady", spec := "viewSteady", inPlace := ["internal/abi.NoEscape", "slices.overlaps[string]", "slices.overlaps[newsstand/view.key]"], unfollowed := true, recurses := true, loops := true, plainKeys := false, apart := false }
def ViewSteadySaid : Prop := viewSteadyRow.holds Tryz.pinned (OpenSpec.ofChange viewSteadySpec)

/-- ITS FALSE NEIGHBOUR: 'it returns false'. Refute it at one input. -/
def viewSteadyWrong : ChangeSpec := { name := "viewSteady", fn := fun _ => fun
  | [d1, d2, d3, d4, d5] => { results := [.lit (.bool false)], args := [d1, d2, d3, d4, d5] }
  | _ => none }
def ViewSteadyWrongFalsely : Prop := viewSteadyRow.holds Tryz.pinned (OpenSpec.ofChange viewSteadyWrong)

/- THE SECOND FORM. 'bulk': how many values and letters a reading holds, each counted each time it is reached (what is shared counts as often as it is met; a slice's spare places count too). A statement '..UptoSaid' is the law's where the arguments, and the package variables that the reading takes, are together of bulk at most 1048576: NARROWER than '..Said'. Prove '..Said' where nothing that the law and all that it calls make is longer than what came in: it says more and counts as full. Else prove '..UptoSaid'. A law counts once. -/
mutual
def uptoBulk {H : Type} : DataW H → Nat
  | .lit (.string bytes) => bytes.length + 1
  | .lit _ => 1
  | .nil => 1
  | .ptr d => uptoBulk d + 1
  | .slice elems spare => uptoBulkAll elems + uptoBulkAll spare + 1
  | .agg parts => uptoBulkAll parts + 1
  | .iface _ d => uptoBulk d + 1
  | .map entries => uptoBulkEntries entries + 1
  | .held _ => 1
def uptoBulkAll {H : Type} : List (DataW H) → Nat
  | [] => 0
  | d :: r => uptoBulk d + uptoBulkAll r
def uptoBulkEntries {H : Type} : List (Lit × DataW H) → Nat
  | [] => 0
  | x :: r => uptoBulkEntry x + uptoBulkEntries r
def uptoBulkEntry {H : Type} : Lit × DataW H → Nat
  | (.string bytes, d) => bytes.length + uptoBulk d + 1
  | (_, d) => uptoBulk d + 1
 end
def uptoSmall : (H : Type) → List (DataW H) → Bool := fun _ ds => decide (uptoBulkAll ds ≤ 1048576)
def OpenSpec.upto (s : _root_.Go.ChangeSpec) : _root_.Go.OpenSpec := { _root_.Go.OpenSpec.ofChange s with cond := some uptoSmall }

/-- 'newsstandlaw28.CountTells', WHERE WHAT IT READS IS OF BULK AT MOST 1048576: true; the input reads as it did. -/
def countTellsUptoRow : OpenClaim := { program := "ytanjiiailjilbaagreat", sum := "148d9e90d2b4fcc0e4f89c9b1a2ffa09770cd670f8f303d2dd7967aa158898d4", func := "newsstand/newsstandlaw28.CountTells", spec := "countTells", inPlace := ["internal/abi.NoEscape", "slices.overlaps[string]"], unfollowed := true, recurses := true, plainKeys := false, apart := false, narrowed := true }
def CountTellsUptoSaid : Prop := countTellsUptoRow.holds Tryz.pinned (OpenSpec.upto countTellsSpec)

/-- 'newsstandlaw28.CountKept', WHERE WHAT IT READS IS OF BULK AT MOST 1048576: true; the input reads as it did. -/
def countKeptUptoRow : OpenClaim := { program := "ytanjiiailjilbaagreat", sum := "148d9e90d2b4fcc0e4f89c9b1a2ffa09770cd670f8f303d2dd7967aa158898d4", func := "newsstand/newsstandlaw28.CountKept", spec := "countKept", inPlace := ["internal/abi.NoEscape", "slices.overlaps[string]"], unfollowed := true, recurses := true, plainKeys := false, apart := false, narrowed := true }
def CountKeptUptoSaid : Prop := countKeptUptoRow.holds Tryz.pinned (OpenSpec.upto countKeptSpec)

/-- 'newsstandlaw28.CountSums', WHERE WHAT IT READS IS OF BULK AT MOST 1048576: true; the input reads as it did. -/
def countSumsUptoRow : OpenClaim := { program := "ytanjiiailjilbaagreat", sum := "148d9e90d2b4fcc0e4f89c9b1a2ffa09770cd670f8f303d2dd7967aa158898d4", func := "newsstand/newsstandlaw28.CountSums", spec := "countSums", inPlace := ["internal/abi.NoEscape", "slices.overlaps[string]"], unfollowed := true, recurses := true, plainKeys := false, apart := false, narrowed := true }
def CountSumsUptoSaid : Prop := countSumsUptoRow.holds Tryz.pinned (OpenSpec.upto countSumsSpec)

/-- 'newsstandlaw31.ViewTells', WHERE WHAT IT READS IS OF BULK AT MOST 1048576: true; the input reads as it did. -/
def viewTellsUptoRow : OpenClaim := { program := "ytanjiiailjilbaagreat", sum := "148d9e90d2b4fcc0e4f89c9b1a2ffa09770cd670f8f303d2dd7967aa158898d4", func := "newsstand/newsstandlaw31.ViewTells", spec := "viewTells", inPlace := ["internal/abi.NoEscape", "slices.overlaps[string]", "slices.overlaps[newsstand/view.key]"], unfollowed := true, recurses := true, plainKeys := false, apart := false, narrowed := true }
def ViewTellsUptoSaid : Prop := viewTellsUptoRow.holds Tryz.pinned (OpenSpec.upto viewTellsSpec)

/-- 'newsstandlaw31.ViewAsks', WHERE WHAT IT READS IS OF BULK AT MOST 1048576: true; the input reads as it did. -/
def viewAsksUptoRow : OpenClaim := { program := "ytanjiiailjilbaagreat", sum := "148d9e90d2b4fcc0e4f89c9b1a2ffa09770cd670f8f303d2dd7967aa158898d4", func := "newsstand/newsstandlaw31.ViewAsks", spec := "viewAsks", inPlace := ["internal/abi.NoEscape", "slices.overlaps[string]", "slices.overlaps[newsstand/view.key]"], unfollowed := true, recurses := true, loops := true, plainKeys := false, apart := false, narrowed := true }
def ViewAsksUptoSaid : Prop := viewAsksUptoRow.holds Tryz.pinned (OpenSpec.upto viewAsksSpec)

/-- 'newsstandlaw31.ViewKept', WHERE WHAT IT READS IS OF BULK AT MOST 1048576: true; the input reads as it did. -/
def viewKeptUptoRow : OpenClaim := { program := "ytanjiiailjilbaagreat", sum := "148d9e90d2b4fcc0e4f89c9b1a2ffa09770cd670f8f303d2dd7967aa158898d4", func := "newsstand/newsstandlaw31.ViewKept", spec := "viewKept", inPlace := ["internal/abi.NoEscape", "slices.overlaps[string]", "slices.overlaps[newsstand/view.key]"], unfollowed := true, recurses := true, plainKeys := false, apart := false, narrowed := true }
def ViewKeptUptoSaid : Prop := viewKeptUptoRow.holds Tryz.pinned (OpenSpec.upto viewKeptSpec)

/-- 'newsstandlaw31.ViewSteady', WHERE WHAT IT READS IS OF BULK AT MOST 1048576: true; the input reads as it did. -/
def viewSteadyUptoRow : OpenClaim := { program := "ytanjiiailjilbaagreat", sum := "148d9e90d2b4fcc0e4f89c9b1a2ffa09770cd670f8f303d2dd7967aa158898d4", func := "newsstand/newsstandlaw31.ViewSteady", spec := "viewSteady", inPlace := ["internal/abi.NoEscape", "slices.overlaps[string]", "slices.overlaps[newsstand/view.key]"], unfollowed := true, recurses := true, loops := true, plainKeys := false, apart := false, narrowed := true }
def ViewSteadyUptoSaid : Prop := viewSteadyUptoRow.holds Tryz.pinned (OpenSpec.upto viewSteadySpec)

end Rows
end Go.Proofs.YtanjiiailjilbaaGreat
