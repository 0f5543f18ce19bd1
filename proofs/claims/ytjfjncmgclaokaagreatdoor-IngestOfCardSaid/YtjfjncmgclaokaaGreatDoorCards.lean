/-
  DERIVED. GIVEN WITH THE SEED: THE CARDS: each row of YtjfjncmgclaokaaGreatDoorRows.lean that lists a variable, with what it lists TIED to the program's text (the seventh form; the later family's looks); each row that meets fmt, with fmt's text TOLD by the authors' own Lean function (tested against real Go, not proved from fmt's source: count such statements apart). THE CARD IS WHAT COUNTS. Prove the row's statement (the work); the ties are given (YtjfjncmgclaokaaGreatDoorTie.lean); close each card by the builder's one call (the guide's Derived/Test/ToyasCard.lean, 'card_holds'). Laid BY PROGRAM, IN A SANDBOX (cutbox-door.mjs). By AI agents, Wed Nov 11 2026. No macro, syntax, notation, axiom, sorry.
-/
import Derived.Test.YtjfjncmgclaokaaGreatDoorRows
import GoSem.ClaimSeven
namespace Go.Proofs.YtjfjncmgclaokaaGreatDoor
namespace Rows

/-- THE TIED CARD OF 'newsstandlaw12.FeedParses'. -/
def feedParsesCard : Claim7 := { stood := { row := feedParsesRow, standIns := [], harness := (true, "796c8ae9c54e7670d8bb9975891746204996deb2b2204cc76bfbb3fc493ccdaa"), looks := false }, kinds := [], alts := [], laidByText := true, laidKinds := [.data, .pinned], laidTests := true, laidLooks := .later }
def FeedParsesCardSaid : Prop := Claim7.holds Tryz.pinned (.plain (OpenSpec.ofChange feedParsesSpec)) feedParsesCard

/-- THE TIED CARD OF 'newsstandlaw23.IngestNobody'. -/
def ingestNobodyCard : Claim7 := { stood := { row := ingestNobodyRow, standIns := [], harness := (true, "796c8ae9c54e7670d8bb9975891746204996deb2b2204cc76bfbb3fc493ccdaa"), looks := false }, kinds := [], alts := [], laidByText := true, laidKinds := [.data, .pinned], laidTests := true, laidLooks := .later }
def IngestNobodyCardSaid : Prop := Claim7.holds Tryz.pinned (.plain (OpenSpec.ofChange ingestNobodySpec)) ingestNobodyCard

/-- THE TIED CARD OF 'newsstandlaw23.IngestOf'. -/
def ingestOfCard : Claim7 := { stood := { row := ingestOfRow, standIns := [], harness := (true, "796c8ae9c54e7670d8bb9975891746204996deb2b2204cc76bfbb3fc493ccdaa"), looks := false }, kinds := [], alts := [], laidByText := true, laidKinds := [.data, .pinned], laidTests := true, laidLooks := .later }
def IngestOfCardSaid : Prop := Claim7.holds Tryz.pinned (.plain (OpenSpec.ofChange ingestOfSpec)) ingestOfCard

/-- THE TIED CARD OF 'newsstandlaw23.IngestAll'. -/
def ingestAllCard : Claim7 := { stood := { row := ingestAllRow, standIns := [], harness := (true, "796c8ae9c54e7670d8bb9975891746204996deb2b2204cc76bfbb3fc493ccdaa"), looks := false }, kinds := [], alts := [], laidByText := true, laidKinds := [.data, .pinned], laidTests := true, laidLooks := .later }
def IngestAllCardSaid : Prop := Claim7.holds Tryz.pinned (.plain (OpenSpec.ofChange ingestAllSpec)) ingestAllCard

/-- THE TIED CARD OF 'newsstandlaw23.IngestFits'. -/
def ingestFitsCard : Claim7 := { stood := { row := ingestFitsRow, standIns := [], harness := (true, "796c8ae9c54e7670d8bb9975891746204996deb2b2204cc76bfbb3fc493ccdaa"), looks := false }, kinds := [], alts := [], laidByText := true, laidKinds := [.data, .pinned], laidTests := true, laidLooks := .later }
def IngestFitsCardSaid : Prop := Claim7.holds Tryz.pinned (.plain (OpenSpec.ofChange ingestFitsSpec)) ingestFitsCard

/-- THE SECOND FORM's CARD OF 'newsstandlaw12.FeedParses'. -/
def feedParsesUptoCard : Claim7 := { stood := { row := feedParsesUptoRow, standIns := [], harness := (true, "796c8ae9c54e7670d8bb9975891746204996deb2b2204cc76bfbb3fc493ccdaa"), looks := false }, kinds := [], alts := [], laidByText := true, laidKinds := [.data, .pinned], laidTests := true, laidLooks := .later }
def FeedParsesUptoCardSaid : Prop := Claim7.holds Tryz.pinned (.plain (OpenSpec.upto feedParsesSpec)) feedParsesUptoCard

/-- THE SECOND FORM's CARD OF 'newsstandlaw23.IngestNobody'. -/
def ingestNobodyUptoCard : Claim7 := { stood := { row := ingestNobodyUptoRow, standIns := [], harness := (true, "796c8ae9c54e7670d8bb9975891746204996deb2b2204cc76bfbb3fc493ccdaa"), looks := false }, kinds := [], alts := [], laidByText := true, laidKinds := [.data, .pinned], laidTests := true, laidLooks := .later }
def IngestNobodyUptoCardSaid : Prop := Claim7.holds Tryz.pinned (.plain (OpenSpec.upto ingestNobodySpec)) ingestNobodyUptoCard

/-- THE SECOND FORM's CARD OF 'newsstandlaw23.IngestOf'. -/
def ingestOfUptoCard : Claim7 := { stood := { row := ingestOfUptoRow, standIns := [], harness := (true, "796c8ae9c54e7670d8bb9975891746204996deb2b2204cc76bfbb3fc493ccdaa"), looks := false }, kinds := [], alts := [], laidByText := true, laidKinds := [.data, .pinned], laidTests := true, laidLooks := .later }
def IngestOfUptoCardSaid : Prop := Claim7.holds Tryz.pinned (.plain (OpenSpec.upto ingestOfSpec)) ingestOfUptoCard

/-- THE SECOND FORM's CARD OF 'newsstandlaw23.IngestAll'. -/
def ingestAllUptoCard : Claim7 := { stood := { row := ingestAllUptoRow, standIns := [], harness := (true, "796c8ae9c54e7670d8bb9975891746204996deb2b2204cc76bfbb3fc493ccdaa"), looks := false }, kinds := [], alts := [], laidByText := true, laidKinds := [.data, .pinned], laidTests := true, laidLooks := .later }
def IngestAllUptoCardSaid : Prop := Claim7.holds Tryz.pinned (.plain (OpenSpec.upto ingestAllSpec)) ingestAllUptoCard

/-- THE SECOND FORM's CARD OF 'newsstandlaw23.IngestFits'. -/
def ingestFitsUptoCard : Claim7 := { stood := { row := ingestFitsUptoRow, standIns := [], harness := (true, "796c8ae9c54e7670d8bb9975891746204996deb2b2204cc76bfbb3fc493ccdaa"), looks := false }, kinds := [], alts := [], laidByText := true, laidKinds := [.data, .pinned], laidTests := true, laidLooks := .later }
def IngestFitsUptoCardSaid : Prop := Claim7.holds Tryz.pinned (.plain (OpenSpec.upto ingestFitsSpec)) ingestFitsUptoCard
end Rows
end Go.Proofs.YtjfjncmgclaokaaGreatDoor
