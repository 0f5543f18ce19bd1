/-
  DERIVED. GIVEN WITH THE SEED: THE CARDS: each row of YtjgligkejfjbpaaGreatDoorRows.lean that lists a variable, with what it lists TIED to the program's text (the seventh form; the later family's looks); each row that meets fmt, with fmt's text TOLD by the authors' own Lean function (tested against real Go, not proved from fmt's source: count such statements apart). THE CARD IS WHAT COUNTS. Prove the row's statement (the work); the ties are given (YtjgligkejfjbpaaGreatDoorTie.lean); close each card by the builder's one call (the guide's Derived/Test/ToyasCard.lean, 'card_holds'). Laid BY PROGRAM, IN A SANDBOX (cutbox-door.mjs). By AI agents, Wed Nov 11 2026. No macro, syntax, notation, axiom, sorry.
-/
import Derived.Test.YtjgligkejfjbpaaGreatDoorRows
import GoSem.ClaimSeven
namespace Go.Proofs.YtjgligkejfjbpaaGreatDoor
namespace Rows

/-- THE TIED CARD OF 'newsstandlaw09.TreeParses'. -/
def treeParsesCard : Claim7 := { stood := { row := treeParsesRow, standIns := [], harness := (true, "dde1a2613370201a517371c7517a5c18c2d6fb951da1fae9a0711b9b1a063fae"), looks := false }, kinds := [], alts := [], laidByText := true, laidKinds := [.data, .pinned], laidTests := true, laidLooks := .later }
def TreeParsesCardSaid : Prop := Claim7.holds Tryz.pinned (.plain (OpenSpec.ofChange treeParsesSpec)) treeParsesCard

/-- THE TIED CARD OF 'newsstandlaw09.TreeLooks'. -/
def treeLooksCard : Claim7 := { stood := { row := treeLooksRow, standIns := [], harness := (true, "dde1a2613370201a517371c7517a5c18c2d6fb951da1fae9a0711b9b1a063fae"), looks := false }, kinds := [], alts := [], laidByText := true, laidKinds := [.data, .pinned], laidTests := true, laidLooks := .later }
def TreeLooksCardSaid : Prop := Claim7.holds Tryz.pinned (.plain (OpenSpec.ofChange treeLooksSpec)) treeLooksCard

/-- THE TIED CARD OF 'newsstandlaw13.OpmlReads'. -/
def opmlReadsCard : Claim7 := { stood := { row := opmlReadsRow, standIns := [], harness := (true, "dde1a2613370201a517371c7517a5c18c2d6fb951da1fae9a0711b9b1a063fae"), looks := false }, kinds := [], alts := [], laidByText := true, laidKinds := [.data, .pinned], laidTests := true, laidLooks := .later }
def OpmlReadsCardSaid : Prop := Claim7.holds Tryz.pinned (.plain (OpenSpec.ofChange opmlReadsSpec)) opmlReadsCard

/-- THE TIED CARD OF 'newsstandlaw13.OpmlWrites'. -/
def opmlWritesCard : Claim7 := { stood := { row := opmlWritesRow, standIns := [], harness := (true, "dde1a2613370201a517371c7517a5c18c2d6fb951da1fae9a0711b9b1a063fae"), looks := false }, kinds := [], alts := [], laidByText := true, laidKinds := [.data, .pinned], laidTests := true, laidLooks := .later }
def OpmlWritesCardSaid : Prop := Claim7.holds Tryz.pinned (.plain (OpenSpec.ofChange opmlWritesSpec)) opmlWritesCard

/-- THE TIED CARD OF 'newsstandlaw13.OpmlFeeds'. -/
def opmlFeedsCard : Claim7 := { stood := { row := opmlFeedsRow, standIns := [], harness := (true, "dde1a2613370201a517371c7517a5c18c2d6fb951da1fae9a0711b9b1a063fae"), looks := false }, kinds := [], alts := [], laidByText := true, laidKinds := [.data, .pinned], laidTests := true, laidLooks := .later }
def OpmlFeedsCardSaid : Prop := Claim7.holds Tryz.pinned (.plain (OpenSpec.ofChange opmlFeedsSpec)) opmlFeedsCard

/-- THE TIED CARD OF 'newsstandlaw13.OpmlAgain'. -/
def opmlAgainCard : Claim7 := { stood := { row := opmlAgainRow, standIns := [], harness := (true, "dde1a2613370201a517371c7517a5c18c2d6fb951da1fae9a0711b9b1a063fae"), looks := false }, kinds := [], alts := [], laidByText := true, laidKinds := [.data, .pinned], laidTests := true, laidLooks := .later }
def OpmlAgainCardSaid : Prop := Claim7.holds Tryz.pinned (.plain (OpenSpec.ofChange opmlAgainSpec)) opmlAgainCard

/-- THE SECOND FORM's CARD OF 'newsstandlaw09.TreeParses'. -/
def treeParsesUptoCard : Claim7 := { stood := { row := treeParsesUptoRow, standIns := [], harness := (true, "dde1a2613370201a517371c7517a5c18c2d6fb951da1fae9a0711b9b1a063fae"), looks := false }, kinds := [], alts := [], laidByText := true, laidKinds := [.data, .pinned], laidTests := true, laidLooks := .later }
def TreeParsesUptoCardSaid : Prop := Claim7.holds Tryz.pinned (.plain (OpenSpec.upto treeParsesSpec)) treeParsesUptoCard

/-- THE SECOND FORM's CARD OF 'newsstandlaw09.TreeLooks'. -/
def treeLooksUptoCard : Claim7 := { stood := { row := treeLooksUptoRow, standIns := [], harness := (true, "dde1a2613370201a517371c7517a5c18c2d6fb951da1fae9a0711b9b1a063fae"), looks := false }, kinds := [], alts := [], laidByText := true, laidKinds := [.data, .pinned], laidTests := true, laidLooks := .later }
def TreeLooksUptoCardSaid : Prop := Claim7.holds Tryz.pinned (.plain (OpenSpec.upto treeLooksSpec)) treeLooksUptoCard

/-- THE SECOND FORM's CARD OF 'newsstandlaw13.OpmlReads'. -/
def opmlReadsUptoCard : Claim7 := { stood := { row := opmlReadsUptoRow, standIns := [], harness := (true, "dde1a2613370201a517371c7517a5c18c2d6fb951da1fae9a0711b9b1a063fae"), looks := false }, kinds := [], alts := [], laidByText := true, laidKinds := [.data, .pinned], laidTests := true, laidLooks := .later }
def OpmlReadsUptoCardSaid : Prop := Claim7.holds Tryz.pinned (.plain (OpenSpec.upto opmlReadsSpec)) opmlReadsUptoCard

/-- THE SECOND FORM's CARD OF 'newsstandlaw13.OpmlWrites'. -/
def opmlWritesUptoCard : Claim7 := { stood := { row := opmlWritesUptoRow, standIns := [], harness := (true, "dde1a2613370201a517371c7517a5c18c2d6fb951da1fae9a0711b9b1a063fae"), looks := false }, kinds := [], alts := [], laidByText := true, laidKinds := [.data, .pinned], laidTests := true, laidLooks := .later }
def OpmlWritesUptoCardSaid : Prop := Claim7.holds Tryz.pinned (.plain (OpenSpec.upto opmlWritesSpec)) opmlWritesUptoCard

/-- THE SECOND FORM's CARD OF 'newsstandlaw13.OpmlFeeds'. -/
def opmlFeedsUptoCard : Claim7 := { stood := { row := opmlFeedsUptoRow, standIns := [], harness := (true, "dde1a2613370201a517371c7517a5c18c2d6fb951da1fae9a0711b9b1a063fae"), looks := false }, kinds := [], alts := [], laidByText := true, laidKinds := [.data, .pinned], laidTests := true, laidLooks := .later }
def OpmlFeedsUptoCardSaid : Prop := Claim7.holds Tryz.pinned (.plain (OpenSpec.upto opmlFeedsSpec)) opmlFeedsUptoCard

/-- THE SECOND FORM's CARD OF 'newsstandlaw13.OpmlAgain'. -/
def opmlAgainUptoCard : Claim7 := { stood := { row := opmlAgainUptoRow, standIns := [], harness := (true, "dde1a2613370201a517371c7517a5c18c2d6fb951da1fae9a0711b9b1a063fae"), looks := false }, kinds := [], alts := [], laidByText := true, laidKinds := [.data, .pinned], laidTests := true, laidLooks := .later }
def OpmlAgainUptoCardSaid : Prop := Claim7.holds Tryz.pinned (.plain (OpenSpec.upto opmlAgainSpec)) opmlAgainUptoCard
end Rows
end Go.Proofs.YtjgligkejfjbpaaGreatDoor
