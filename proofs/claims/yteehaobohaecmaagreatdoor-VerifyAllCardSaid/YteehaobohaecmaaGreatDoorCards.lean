/-
  DERIVED. GIVEN WITH THE SEED: THE CARDS: each row of YteehaobohaecmaaGreatDoorRows.lean that lists a variable, with what it lists TIED to the program's text (the seventh form; the later family's looks); each row that meets fmt, with fmt's text TOLD by the authors' own Lean function (tested against real Go, not proved from fmt's source: count such statements apart). THE CARD IS WHAT COUNTS. Prove the row's statement (the work); the ties are given (YteehaobohaecmaaGreatDoorTie.lean); close each card by the builder's one call (the guide's Derived/Test/ToyasCard.lean, 'card_holds'). Laid BY PROGRAM, IN A SANDBOX (cutbox-door.mjs). By AI agents, Wed Nov 11 2026. No macro, syntax, notation, axiom, sorry.
-/
import Derived.Test.YteehaobohaecmaaGreatDoorRows
import GoSem.ClaimSeven
namespace Go.Proofs.YteehaobohaecmaaGreatDoor
namespace Rows

/-- THE TIED CARD OF 'learnerlaw46.MonitorSimplifies'. -/
def monitorSimplifiesCard : Claim7 := { stood := { row := monitorSimplifiesRow, standIns := [], harness := (true, "98a18010de341d32116933fdf51a3dd8a8f2b57aa54f69519e37bffcb02f6549"), looks := false }, kinds := [], alts := [], laidByText := true, laidKinds := [.data, .data, .data], laidTests := true, laidLooks := .later }
def MonitorSimplifiesCardSaid : Prop := Claim7.holds Tryz.pinned (.plain (OpenSpec.ofChange monitorSimplifiesSpec)) monitorSimplifiesCard

/-- THE TIED CARD OF 'learnerlaw46.MonitorAutomata'. -/
def monitorAutomataCard : Claim7 := { stood := { row := monitorAutomataRow, standIns := [], harness := (true, "98a18010de341d32116933fdf51a3dd8a8f2b57aa54f69519e37bffcb02f6549"), looks := false }, kinds := [], alts := [], laidByText := true, laidKinds := [.data, .data, .data], laidTests := true, laidLooks := .later }
def MonitorAutomataCardSaid : Prop := Claim7.holds Tryz.pinned (.plain (OpenSpec.ofChange monitorAutomataSpec)) monitorAutomataCard

/-- THE TIED CARD OF 'learnerlaw47.VerifyChecks'. -/
def verifyChecksCard : Claim7 := { stood := { row := verifyChecksRow, standIns := [], harness := (true, "98a18010de341d32116933fdf51a3dd8a8f2b57aa54f69519e37bffcb02f6549"), looks := false }, kinds := [], alts := [], laidByText := true, laidKinds := [.data, .data, .data], laidTests := true, laidLooks := .later }
def VerifyChecksCardSaid : Prop := Claim7.holds Tryz.pinned (.plain (OpenSpec.ofChange verifyChecksSpec)) verifyChecksCard

/-- THE TIED CARD OF 'learnerlaw47.VerifyAll'. -/
def verifyAllCard : Claim7 := { stood := { row := verifyAllRow, standIns := [], harness := (true, "98a18010de341d32116933fdf51a3dd8a8f2b57aa54f69519e37bffcb02f6549"), looks := false }, kinds := [], alts := [], laidByText := true, laidKinds := [.data, .data, .data], laidTests := true, laidLooks := .later }
def VerifyAllCardSaid : Prop := Claim7.holds Tryz.pinned (.plain (OpenSpec.ofChange verifyAllSpec)) verifyAllCard

/-- THE TIED CARD OF 'learnerlaw47.VerifyNegated'. -/
def verifyNegatedCard : Claim7 := { stood := { row := verifyNegatedRow, standIns := [], harness := (true, "98a18010de341d32116933fdf51a3dd8a8f2b57aa54f69519e37bffcb02f6549"), looks := false }, kinds := [], alts := [], laidByText := true, laidKinds := [.data, .data, .data], laidTests := true, laidLooks := .later }
def VerifyNegatedCardSaid : Prop := Claim7.holds Tryz.pinned (.plain (OpenSpec.ofChange verifyNegatedSpec)) verifyNegatedCard

/-- THE TIED CARD OF 'learnerlaw47.VerifyShortest'. -/
def verifyShortestCard : Claim7 := { stood := { row := verifyShortestRow, standIns := [], harness := (true, "98a18010de341d32116933fdf51a3dd8a8f2b57aa54f69519e37bffcb02f6549"), looks := false }, kinds := [], alts := [], laidByText := true, laidKinds := [.data, .data, .data], laidTests := true, laidLooks := .later }
def VerifyShortestCardSaid : Prop := Claim7.holds Tryz.pinned (.plain (OpenSpec.ofChange verifyShortestSpec)) verifyShortestCard

/-- THE SECOND FORM's CARD OF 'learnerlaw46.MonitorSimplifies'. -/
def monitorSimplifiesUptoCard : Claim7 := { stood := { row := monitorSimplifiesUptoRow, standIns := [], harness := (true, "98a18010de341d32116933fdf51a3dd8a8f2b57aa54f69519e37bffcb02f6549"), looks := false }, kinds := [], alts := [], laidByText := true, laidKinds := [.data, .data, .data], laidTests := true, laidLooks := .later }
def MonitorSimplifiesUptoCardSaid : Prop := Claim7.holds Tryz.pinned (.plain (OpenSpec.upto monitorSimplifiesSpec)) monitorSimplifiesUptoCard

/-- THE SECOND FORM's CARD OF 'learnerlaw46.MonitorAutomata'. -/
def monitorAutomataUptoCard : Claim7 := { stood := { row := monitorAutomataUptoRow, standIns := [], harness := (true, "98a18010de341d32116933fdf51a3dd8a8f2b57aa54f69519e37bffcb02f6549"), looks := false }, kinds := [], alts := [], laidByText := true, laidKinds := [.data, .data, .data], laidTests := true, laidLooks := .later }
def MonitorAutomataUptoCardSaid : Prop := Claim7.holds Tryz.pinned (.plain (OpenSpec.upto monitorAutomataSpec)) monitorAutomataUptoCard

/-- THE SECOND FORM's CARD OF 'learnerlaw47.VerifyChecks'. -/
def verifyChecksUptoCard : Claim7 := { stood := { row := verifyChecksUptoRow, standIns := [], harness := (true, "98a18010de341d32116933fdf51a3dd8a8f2b57aa54f69519e37bffcb02f6549"), looks := false }, kinds := [], alts := [], laidByText := true, laidKinds := [.data, .data, .data], laidTests := true, laidLooks := .later }
def VerifyChecksUptoCardSaid : Prop := Claim7.holds Tryz.pinned (.plain (OpenSpec.upto verifyChecksSpec)) verifyChecksUptoCard

/-- THE SECOND FORM's CARD OF 'learnerlaw47.VerifyAll'. -/
def verifyAllUptoCard : Claim7 := { stood := { row := verifyAllUptoRow, standIns := [], harness := (true, "98a18010de341d32116933fdf51a3dd8a8f2b57aa54f69519e37bffcb02f6549"), looks := false }, kinds := [], alts := [], laidByText := true, laidKinds := [.data, .data, .data], laidTests := true, laidLooks := .later }
def VerifyAllUptoCardSaid : Prop := Claim7.holds Tryz.pinned (.plain (OpenSpec.upto verifyAllSpec)) verifyAllUptoCard

/-- THE SECOND FORM's CARD OF 'learnerlaw47.VerifyNegated'. -/
def verifyNegatedUptoCard : Claim7 := { stood := { row := verifyNegatedUptoRow, standIns := [], harness := (true, "98a18010de341d32116933fdf51a3dd8a8f2b57aa54f69519e37bffcb02f6549"), looks := false }, kinds := [], alts := [], laidByText := true, laidKinds := [.data, .data, .data], laidTests := true, laidLooks := .later }
def VerifyNegatedUptoCardSaid : Prop := Claim7.holds Tryz.pinned (.plain (OpenSpec.upto verifyNegatedSpec)) verifyNegatedUptoCard

/-- THE SECOND FORM's CARD OF 'learnerlaw47.VerifyShortest'. -/
def verifyShortestUptoCard : Claim7 := { stood := { row := verifyShortestUptoRow, standIns := [], harness := (true, "98a18010de341d32116933fdf51a3dd8a8f2b57aa54f69519e37bffcb02f6549"), looks := false }, kinds := [], alts := [], laidByText := true, laidKinds := [.data, .data, .data], laidTests := true, laidLooks := .later }
def VerifyShortestUptoCardSaid : Prop := Claim7.holds Tryz.pinned (.plain (OpenSpec.upto verifyShortestSpec)) verifyShortestUptoCard
end Rows
end Go.Proofs.YteehaobohaecmaaGreatDoor
