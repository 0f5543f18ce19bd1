/-
  DERIVED. GIVEN WITH THE SEED: THE CARDS: each row of YtnolelibaahimaaGreatDoorRows.lean that lists a variable, with what it lists TIED to the program's text (the seventh form; the later family's looks); each row that meets fmt, with fmt's text TOLD by the authors' own Lean function (tested against real Go, not proved from fmt's source: count such statements apart). THE CARD IS WHAT COUNTS. Prove the row's statement (the work); the ties are given (YtnolelibaahimaaGreatDoorTie.lean); close each card by the builder's one call (the guide's Derived/Test/ToyasCard.lean, 'card_holds'). Laid BY PROGRAM, IN A SANDBOX (cutbox-door.mjs). By AI agents, Wed Nov 11 2026. No macro, syntax, notation, axiom, sorry.
-/
import Derived.Test.YtnolelibaahimaaGreatDoorRows
import GoSem.ClaimSeven
namespace Go.Proofs.YtnolelibaahimaaGreatDoor
namespace Rows

/-- THE TIED CARD OF 'newsstandlaw24.ExportAgain'. -/
def exportAgainCard : Claim7 := { stood := { row := exportAgainRow, standIns := [], harness := (true, "585272b45ee57d18591cdd7f35805f6adc518b283c4dff619a2bbbdb64a9252d"), looks := true }, kinds := [], alts := [], laidByText := true, laidKinds := [.data, .pinned], laidTests := true, laidLooks := .later }
def ExportAgainCardSaid : Prop := Claim7.holds Tryz.pinned (.plain (OpenSpec.ofChange exportAgainSpec)) exportAgainCard

/-- THE TIED CARD OF 'newsstandlaw24.ExportKeeps'. -/
def exportKeepsCard : Claim7 := { stood := { row := exportKeepsRow, standIns := [], harness := (true, "585272b45ee57d18591cdd7f35805f6adc518b283c4dff619a2bbbdb64a9252d"), looks := true }, kinds := [], alts := [], laidByText := true, laidKinds := [.data, .pinned], laidTests := true, laidLooks := .later }
def ExportKeepsCardSaid : Prop := Claim7.holds Tryz.pinned (.plain (OpenSpec.ofChange exportKeepsSpec)) exportKeepsCard

/-- THE TIED CARD OF 'newsstandlaw24.ExportTells'. -/
def exportTellsCard : Claim7 := { stood := { row := exportTellsRow, standIns := [], harness := (true, "585272b45ee57d18591cdd7f35805f6adc518b283c4dff619a2bbbdb64a9252d"), looks := true }, kinds := [], alts := [], laidByText := true, laidKinds := [.data, .pinned], laidTests := true, laidLooks := .later }
def ExportTellsCardSaid : Prop := Claim7.holds Tryz.pinned (.plain (OpenSpec.ofChange exportTellsSpec)) exportTellsCard

/-- THE TIED CARD OF 'newsstandlaw24.ExportPlans'. -/
def exportPlansCard : Claim7 := { stood := { row := exportPlansRow, standIns := [], harness := (true, "585272b45ee57d18591cdd7f35805f6adc518b283c4dff619a2bbbdb64a9252d"), looks := true }, kinds := [], alts := [], laidByText := true, laidKinds := [.data, .pinned], laidTests := true, laidLooks := .later }
def ExportPlansCardSaid : Prop := Claim7.holds Tryz.pinned (.plain (OpenSpec.ofChange exportPlansSpec)) exportPlansCard

/-- THE TIED CARD OF 'newsstandlaw24.ExportBack'. -/
def exportBackCard : Claim7 := { stood := { row := exportBackRow, standIns := [], harness := (true, "585272b45ee57d18591cdd7f35805f6adc518b283c4dff619a2bbbdb64a9252d"), looks := true }, kinds := [], alts := [], laidByText := true, laidKinds := [.data, .pinned], laidTests := true, laidLooks := .later }
def ExportBackCardSaid : Prop := Claim7.holds Tryz.pinned (.plain (OpenSpec.ofChange exportBackSpec)) exportBackCard

/-- THE SECOND FORM's CARD OF 'newsstandlaw24.ExportAgain'. -/
def exportAgainUptoCard : Claim7 := { stood := { row := exportAgainUptoRow, standIns := [], harness := (true, "585272b45ee57d18591cdd7f35805f6adc518b283c4dff619a2bbbdb64a9252d"), looks := true }, kinds := [], alts := [], laidByText := true, laidKinds := [.data, .pinned], laidTests := true, laidLooks := .later }
def ExportAgainUptoCardSaid : Prop := Claim7.holds Tryz.pinned (.plain (OpenSpec.upto exportAgainSpec)) exportAgainUptoCard

/-- THE SECOND FORM's CARD OF 'newsstandlaw24.ExportKeeps'. -/
def exportKeepsUptoCard : Claim7 := { stood := { row := exportKeepsUptoRow, standIns := [], harness := (true, "585272b45ee57d18591cdd7f35805f6adc518b283c4dff619a2bbbdb64a9252d"), looks := true }, kinds := [], alts := [], laidByText := true, laidKinds := [.data, .pinned], laidTests := true, laidLooks := .later }
def ExportKeepsUptoCardSaid : Prop := Claim7.holds Tryz.pinned (.plain (OpenSpec.upto exportKeepsSpec)) exportKeepsUptoCard

/-- THE SECOND FORM's CARD OF 'newsstandlaw24.ExportTells'. -/
def exportTellsUptoCard : Claim7 := { stood := { row := exportTellsUptoRow, standIns := [], harness := (true, "585272b45ee57d18591cdd7f35805f6adc518b283c4dff619a2bbbdb64a9252d"), looks := true }, kinds := [], alts := [], laidByText := true, laidKinds := [.data, .pinned], laidTests := true, laidLooks := .later }
def ExportTellsUptoCardSaid : Prop := Claim7.holds Tryz.pinned (.plain (OpenSpec.upto exportTellsSpec)) exportTellsUptoCard

/-- THE SECOND FORM's CARD OF 'newsstandlaw24.ExportPlans'. -/
def exportPlansUptoCard : Claim7 := { stood := { row := exportPlansUptoRow, standIns := [], harness := (true, "585272b45ee57d18591cdd7f35805f6adc518b283c4dff619a2bbbdb64a9252d"), looks := true }, kinds := [], alts := [], laidByText := true, laidKinds := [.data, .pinned], laidTests := true, laidLooks := .later }
def ExportPlansUptoCardSaid : Prop := Claim7.holds Tryz.pinned (.plain (OpenSpec.upto exportPlansSpec)) exportPlansUptoCard

/-- THE SECOND FORM's CARD OF 'newsstandlaw24.ExportBack'. -/
def exportBackUptoCard : Claim7 := { stood := { row := exportBackUptoRow, standIns := [], harness := (true, "585272b45ee57d18591cdd7f35805f6adc518b283c4dff619a2bbbdb64a9252d"), looks := true }, kinds := [], alts := [], laidByText := true, laidKinds := [.data, .pinned], laidTests := true, laidLooks := .later }
def ExportBackUptoCardSaid : Prop := Claim7.holds Tryz.pinned (.plain (OpenSpec.upto exportBackSpec)) exportBackUptoCard
end Rows
end Go.Proofs.YtnolelibaahimaaGreatDoor
