/-
  DERIVED. GIVEN WITH THE SEED: THE CARDS: each row of YtmfhelaoeaifeaaGreatDoorRows.lean that lists a variable, with what it lists TIED to the program's text (the seventh form; the later family's looks); each row that meets fmt, with fmt's text TOLD by the authors' own Lean function (tested against real Go, not proved from fmt's source: count such statements apart). THE CARD IS WHAT COUNTS. Prove the row's statement (the work); the ties are given (YtmfhelaoeaifeaaGreatDoorTie.lean); close each card by the builder's one call (the guide's Derived/Test/ToyasCard.lean, 'card_holds'). Laid BY PROGRAM, IN A SANDBOX (cutbox-door.mjs). By AI agents, Wed Nov 11 2026. No macro, syntax, notation, axiom, sorry.
-/
import Derived.Test.YtmfhelaoeaifeaaGreatDoorRows
import GoSem.ClaimSeven
namespace Go.Proofs.YtmfhelaoeaifeaaGreatDoor
namespace Rows

/-- THE TIED CARD OF 'newsstandlaw27.QevalItems'. -/
def qevalItemsCard : Claim7 := { stood := { row := qevalItemsRow, standIns := [], harness := (true, "54cf79ba1d2aae7a36faa2837df990e977ec9b7a2a88d69276fcef7ce293e375"), looks := true }, kinds := [], alts := [], laidByText := true, laidKinds := [.data, .data, .data, .sentinel, .sentinel], laidTests := true, laidLooks := .later }
def QevalItemsCardSaid : Prop := Claim7.holds Tryz.pinned (.plain (OpenSpec.ofChange qevalItemsSpec)) qevalItemsCard

/-- THE TIED CARD OF 'newsstandlaw27.QevalLogic'. -/
def qevalLogicCard : Claim7 := { stood := { row := qevalLogicRow, standIns := [], harness := (true, "54cf79ba1d2aae7a36faa2837df990e977ec9b7a2a88d69276fcef7ce293e375"), looks := true }, kinds := [], alts := [], laidByText := true, laidKinds := [.data, .data, .data, .sentinel, .sentinel], laidTests := true, laidLooks := .later }
def QevalLogicCardSaid : Prop := Claim7.holds Tryz.pinned (.plain (OpenSpec.ofChange qevalLogicSpec)) qevalLogicCard

/-- THE TIED CARD OF 'newsstandlaw27.QevalOrder'. -/
def qevalOrderCard : Claim7 := { stood := { row := qevalOrderRow, standIns := [], harness := (true, "54cf79ba1d2aae7a36faa2837df990e977ec9b7a2a88d69276fcef7ce293e375"), looks := true }, kinds := [], alts := [], laidByText := true, laidKinds := [.data, .data, .data, .sentinel, .sentinel], laidTests := true, laidLooks := .later }
def QevalOrderCardSaid : Prop := Claim7.holds Tryz.pinned (.plain (OpenSpec.ofChange qevalOrderSpec)) qevalOrderCard

/-- THE TIED CARD OF 'newsstandlaw27.QevalNorm'. -/
def qevalNormCard : Claim7 := { stood := { row := qevalNormRow, standIns := [], harness := (true, "54cf79ba1d2aae7a36faa2837df990e977ec9b7a2a88d69276fcef7ce293e375"), looks := true }, kinds := [], alts := [], laidByText := true, laidKinds := [.data, .data, .data, .sentinel, .sentinel], laidTests := true, laidLooks := .later }
def QevalNormCardSaid : Prop := Claim7.holds Tryz.pinned (.plain (OpenSpec.ofChange qevalNormSpec)) qevalNormCard

/-- THE SECOND FORM's CARD OF 'newsstandlaw27.QevalItems'. -/
def qevalItemsUptoCard : Claim7 := { stood := { row := qevalItemsUptoRow, standIns := [], harness := (true, "54cf79ba1d2aae7a36faa2837df990e977ec9b7a2a88d69276fcef7ce293e375"), looks := true }, kinds := [], alts := [], laidByText := true, laidKinds := [.data, .data, .data, .sentinel, .sentinel], laidTests := true, laidLooks := .later }
def QevalItemsUptoCardSaid : Prop := Claim7.holds Tryz.pinned (.plain (OpenSpec.upto qevalItemsSpec)) qevalItemsUptoCard

/-- THE SECOND FORM's CARD OF 'newsstandlaw27.QevalLogic'. -/
def qevalLogicUptoCard : Claim7 := { stood := { row := qevalLogicUptoRow, standIns := [], harness := (true, "54cf79ba1d2aae7a36faa2837df990e977ec9b7a2a88d69276fcef7ce293e375"), looks := true }, kinds := [], alts := [], laidByText := true, laidKinds := [.data, .data, .data, .sentinel, .sentinel], laidTests := true, laidLooks := .later }
def QevalLogicUptoCardSaid : Prop := Claim7.holds Tryz.pinned (.plain (OpenSpec.upto qevalLogicSpec)) qevalLogicUptoCard

/-- THE SECOND FORM's CARD OF 'newsstandlaw27.QevalOrder'. -/
def qevalOrderUptoCard : Claim7 := { stood := { row := qevalOrderUptoRow, standIns := [], harness := (true, "54cf79ba1d2aae7a36faa2837df990e977ec9b7a2a88d69276fcef7ce293e375"), looks := true }, kinds := [], alts := [], laidByText := true, laidKinds := [.data, .data, .data, .sentinel, .sentinel], laidTests := true, laidLooks := .later }
def QevalOrderUptoCardSaid : Prop := Claim7.holds Tryz.pinned (.plain (OpenSpec.upto qevalOrderSpec)) qevalOrderUptoCard

/-- THE SECOND FORM's CARD OF 'newsstandlaw27.QevalNorm'. -/
def qevalNormUptoCard : Claim7 := { stood := { row := qevalNormUptoRow, standIns := [], harness := (true, "54cf79ba1d2aae7a36faa2837df990e977ec9b7a2a88d69276fcef7ce293e375"), looks := true }, kinds := [], alts := [], laidByText := true, laidKinds := [.data, .data, .data, .sentinel, .sentinel], laidTests := true, laidLooks := .later }
def QevalNormUptoCardSaid : Prop := Claim7.holds Tryz.pinned (.plain (OpenSpec.upto qevalNormSpec)) qevalNormUptoCard
end Rows
end Go.Proofs.YtmfhelaoeaifeaaGreatDoor
