/-
  DERIVED. GIVEN WITH THE SEED: THE CARDS: each row of YtljohklbgahomaaGreatDoorRows.lean that lists a variable, with what it lists TIED to the program's text (the seventh form; the later family's looks); each row that meets fmt, with fmt's text TOLD by the authors' own Lean function (tested against real Go, not proved from fmt's source: count such statements apart). THE CARD IS WHAT COUNTS. Prove the row's statement (the work); the ties are given (YtljohklbgahomaaGreatDoorTie.lean); close each card by the builder's one call (the guide's Derived/Test/ToyasCard.lean, 'card_holds'). Laid BY PROGRAM, IN A SANDBOX (cutbox-door.mjs). By AI agents, Wed Nov 11 2026. No macro, syntax, notation, axiom, sorry.
-/
import Derived.Test.YtljohklbgahomaaGreatDoorRows
import GoSem.ClaimSeven
namespace Go.Proofs.YtljohklbgahomaaGreatDoor
namespace Rows

/-- THE TIED CARD OF 'newsstandlaw12.FeedParses'. -/
def feedParsesCard : Claim7 := { stood := { row := feedParsesRow, standIns := [], harness := (true, "bcb8fc2f7b220fb08e21ced20fc52236cc8621fc0a86d0f70d02b498729d91c0"), looks := false }, kinds := [], alts := [], laidByText := true, laidKinds := [.data, .pinned], laidTests := true, laidLooks := .later }
def FeedParsesCardSaid : Prop := Claim7.holds Tryz.pinned (.plain (OpenSpec.ofChange feedParsesSpec)) feedParsesCard

/-- THE TIED CARD OF 'newsstandlaw12.FeedOfs'. -/
def feedOfsCard : Claim7 := { stood := { row := feedOfsRow, standIns := [], harness := (true, "bcb8fc2f7b220fb08e21ced20fc52236cc8621fc0a86d0f70d02b498729d91c0"), looks := false }, kinds := [], alts := [], laidByText := true, laidKinds := [.data, .pinned], laidTests := true, laidLooks := .later }
def FeedOfsCardSaid : Prop := Claim7.holds Tryz.pinned (.plain (OpenSpec.ofChange feedOfsSpec)) feedOfsCard

/-- THE TIED CARD OF 'newsstandlaw12.FeedWrites'. -/
def feedWritesCard : Claim7 := { stood := { row := feedWritesRow, standIns := [], harness := (true, "bcb8fc2f7b220fb08e21ced20fc52236cc8621fc0a86d0f70d02b498729d91c0"), looks := false }, kinds := [], alts := [], laidByText := true, laidKinds := [.data, .pinned], laidTests := true, laidLooks := .later }
def FeedWritesCardSaid : Prop := Claim7.holds Tryz.pinned (.plain (OpenSpec.ofChange feedWritesSpec)) feedWritesCard

/-- THE TIED CARD OF 'newsstandlaw12.FeedAgain'. -/
def feedAgainCard : Claim7 := { stood := { row := feedAgainRow, standIns := [], harness := (true, "bcb8fc2f7b220fb08e21ced20fc52236cc8621fc0a86d0f70d02b498729d91c0"), looks := false }, kinds := [], alts := [], laidByText := true, laidKinds := [.data, .pinned], laidTests := true, laidLooks := .later }
def FeedAgainCardSaid : Prop := Claim7.holds Tryz.pinned (.plain (OpenSpec.ofChange feedAgainSpec)) feedAgainCard

/-- THE SECOND FORM's CARD OF 'newsstandlaw12.FeedParses'. -/
def feedParsesUptoCard : Claim7 := { stood := { row := feedParsesUptoRow, standIns := [], harness := (true, "bcb8fc2f7b220fb08e21ced20fc52236cc8621fc0a86d0f70d02b498729d91c0"), looks := false }, kinds := [], alts := [], laidByText := true, laidKinds := [.data, .pinned], laidTests := true, laidLooks := .later }
def FeedParsesUptoCardSaid : Prop := Claim7.holds Tryz.pinned (.plain (OpenSpec.upto feedParsesSpec)) feedParsesUptoCard

/-- THE SECOND FORM's CARD OF 'newsstandlaw12.FeedOfs'. -/
def feedOfsUptoCard : Claim7 := { stood := { row := feedOfsUptoRow, standIns := [], harness := (true, "bcb8fc2f7b220fb08e21ced20fc52236cc8621fc0a86d0f70d02b498729d91c0"), looks := false }, kinds := [], alts := [], laidByText := true, laidKinds := [.data, .pinned], laidTests := true, laidLooks := .later }
def FeedOfsUptoCardSaid : Prop := Claim7.holds Tryz.pinned (.plain (OpenSpec.upto feedOfsSpec)) feedOfsUptoCard

/-- THE SECOND FORM's CARD OF 'newsstandlaw12.FeedWrites'. -/
def feedWritesUptoCard : Claim7 := { stood := { row := feedWritesUptoRow, standIns := [], harness := (true, "bcb8fc2f7b220fb08e21ced20fc52236cc8621fc0a86d0f70d02b498729d91c0"), looks := false }, kinds := [], alts := [], laidByText := true, laidKinds := [.data, .pinned], laidTests := true, laidLooks := .later }
def FeedWritesUptoCardSaid : Prop := Claim7.holds Tryz.pinned (.plain (OpenSpec.upto feedWritesSpec)) feedWritesUptoCard

/-- THE SECOND FORM's CARD OF 'newsstandlaw12.FeedAgain'. -/
def feedAgainUptoCard : Claim7 := { stood := { row := feedAgainUptoRow, standIns := [], harness := (true, "bcb8fc2f7b220fb08e21ced20fc52236cc8621fc0a86d0f70d02b498729d91c0"), looks := false }, kinds := [], alts := [], laidByText := true, laidKinds := [.data, .pinned], laidTests := true, laidLooks := .later }
def FeedAgainUptoCardSaid : Prop := Claim7.holds Tryz.pinned (.plain (OpenSpec.upto feedAgainSpec)) feedAgainUptoCard
end Rows
end Go.Proofs.YtljohklbgahomaaGreatDoor
