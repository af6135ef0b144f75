/-
  DERIVED. GIVEN WITH THE SEED: THE CARDS: each row of YteehaobohaecmaaDoorRows.lean that lists a variable, with what it lists TIED to the program's text (the seventh form; the later family's looks); each row that meets fmt, with fmt's text TOLD by the authors' own Lean function (tested against real Go, not proved from fmt's source: count such statements apart). THE CARD IS WHAT COUNTS. Prove the row's statement (the work); the ties are given (YteehaobohaecmaaDoorTie.lean); close each card by the builder's one call (the guide's Derived/Test/ToyasCard.lean, 'card_holds'). Laid BY PROGRAM, IN A SANDBOX (cutbox-door.mjs). By AI agents, Wed Nov 11 2026. No macro, syntax, notation, axiom, sorry.
-/
import Derived.Test.YteehaobohaecmaaDoorRows
import GoSem.ClaimSeven
namespace Go.Proofs.YteehaobohaecmaaDoor
namespace Rows

/-- THE TIED CARD OF 'learnerlaw46.MonitorTraces'. -/
def monitorTracesCard : Claim7 := { stood := { row := monitorTracesRow, standIns := [], harness := (true, "9750cd835fc6be56c868f17598e48ee6da7fc37918f78c04b1a6e4f014a09322"), looks := false }, kinds := [], alts := [], laidByText := true, laidKinds := [.data, .data, .data], laidTests := true, laidLooks := .later }
def MonitorTracesCardSaid : Prop := Claim7.holds Tryd.pinned (.plain (OpenSpec.ofChange monitorTracesSpec)) monitorTracesCard

/-- THE TIED CARD OF 'learnerlaw46.MonitorWords'. -/
def monitorWordsCard : Claim7 := { stood := { row := monitorWordsRow, standIns := [], harness := (true, "9750cd835fc6be56c868f17598e48ee6da7fc37918f78c04b1a6e4f014a09322"), looks := false }, kinds := [], alts := [], laidByText := true, laidKinds := [.data, .data, .data], laidTests := true, laidLooks := .later }
def MonitorWordsCardSaid : Prop := Claim7.holds Tryd.pinned (.plain (OpenSpec.ofChange monitorWordsSpec)) monitorWordsCard

/-- THE TIED CARD OF 'learnerlaw46.MonitorOrder'. -/
def monitorOrderCard : Claim7 := { stood := { row := monitorOrderRow, standIns := [], harness := (true, "9750cd835fc6be56c868f17598e48ee6da7fc37918f78c04b1a6e4f014a09322"), looks := false }, kinds := [], alts := [], laidByText := true, laidKinds := [.data, .data, .data], laidTests := true, laidLooks := .later }
def MonitorOrderCardSaid : Prop := Claim7.holds Tryd.pinned (.plain (OpenSpec.ofChange monitorOrderSpec)) monitorOrderCard

/-- THE SECOND FORM's CARD OF 'learnerlaw46.MonitorTraces'. -/
def monitorTracesUptoCard : Claim7 := { stood := { row := monitorTracesUptoRow, standIns := [], harness := (true, "9750cd835fc6be56c868f17598e48ee6da7fc37918f78c04b1a6e4f014a09322"), looks := false }, kinds := [], alts := [], laidByText := true, laidKinds := [.data, .data, .data], laidTests := true, laidLooks := .later }
def MonitorTracesUptoCardSaid : Prop := Claim7.holds Tryd.pinned (.plain (OpenSpec.upto monitorTracesSpec)) monitorTracesUptoCard

/-- THE SECOND FORM's CARD OF 'learnerlaw46.MonitorWords'. -/
def monitorWordsUptoCard : Claim7 := { stood := { row := monitorWordsUptoRow, standIns := [], harness := (true, "9750cd835fc6be56c868f17598e48ee6da7fc37918f78c04b1a6e4f014a09322"), looks := false }, kinds := [], alts := [], laidByText := true, laidKinds := [.data, .data, .data], laidTests := true, laidLooks := .later }
def MonitorWordsUptoCardSaid : Prop := Claim7.holds Tryd.pinned (.plain (OpenSpec.upto monitorWordsSpec)) monitorWordsUptoCard

/-- THE SECOND FORM's CARD OF 'learnerlaw46.MonitorOrder'. -/
def monitorOrderUptoCard : Claim7 := { stood := { row := monitorOrderUptoRow, standIns := [], harness := (true, "9750cd835fc6be56c868f17598e48ee6da7fc37918f78c04b1a6e4f014a09322"), looks := false }, kinds := [], alts := [], laidByText := true, laidKinds := [.data, .data, .data], laidTests := true, laidLooks := .later }
def MonitorOrderUptoCardSaid : Prop := Claim7.holds Tryd.pinned (.plain (OpenSpec.upto monitorOrderSpec)) monitorOrderUptoCard
end Rows
end Go.Proofs.YteehaobohaecmaaDoor
