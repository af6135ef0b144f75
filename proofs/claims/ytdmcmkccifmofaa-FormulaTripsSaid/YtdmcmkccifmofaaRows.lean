/-
  NARROWER THAN 'FOR EVERY INPUT', by the rows' own cells (each row's printed sentence says how): FormulaChecks: loops · FormulaShows: loops · FormulaHolds: loops · FormulaTrips: loops · FormulaDuals: loops · FormulaExpands: loops.
  DERIVED. THE GIVEN ROWS OF THIS SEAT. 7 by the template 'for every input the law returns true; each argument reads behind the call as it read before'; 0 by the template 'total and deterministic' (their statements: YtdmcmkccifmofaaTotals.lean).
  GIVEN WITH THE SEED: the statements are not yours to turn. If you find one false, say at which input.
  Laid BY PROGRAM, IN A SANDBOX (cutbox-rows.mjs): the forced cells as the released guide's own fill.sh prints them over the translation 2ccd37eae04c43d1… (all of the seat's roots in one cut). By AI agents, Wed Nov 11 2026. No macro, syntax, notation, axiom, sorry.
-/
import Derived.Test.YtdmcmkccifmofaaChecked
import GoSem.Claim
import GoSem.ClaimJoined
import GoSem.ClaimMapViews
import Derived.JoinedTies
import Derived.KernelRfl
namespace Go.Proofs.Ytdmcmkccifmofaa
/- THE CELL 'sum', in the pinned program and in every row, IS THE sha256 OF THE DUMP (.gsa) THAT YtdmcmkccifmofaaProg.lean LOADS. Nothing in Lean hashes anything: it is a label: what it is worth is what the hold of that sum in a sandbox is worth. -/
noncomputable def Try.pinned : Pinned := { name := "ytdmcmkccifmofaa", sum := "2ccd37eae04c43d18998e6e81b93b6e6bc4e36805ee91cf4db0f738f82f0e2aa", checked := Try.checked }
namespace Rows
def none {H : Type} : Left H := { results := [], args := [] }

/-- 'learnerlaw45.FormulaChecks': WHATEVER THE INPUT: true; the input reads as it did. -/
def formulaChecksSpec : ChangeSpec := { name := "formulaChecks", fn := fun _ => fun
  | [d1, d2] => { results := [.lit (.bool true)], args := [d1, d2] }
  | _ => none }
def formulaChecksRow : OpenClaim := { program := "ytdmcmkccifmofaa", sum := "2ccd37eae04c43d18998e6e81b93b6e6bc4e36805ee91cf4db0f738f82f0e2aa", func := "learner/learnerlaw45.FormulaChecks", spec := "formulaChecks", inPlace := ["internal/bytealg.IndexByteString", "internal/abi.NoEscape"], unfollowed := true, recurses := true, loops := true, apart := false }
def FormulaChecksSaid : Prop := formulaChecksRow.holds Try.pinned (OpenSpec.ofChange formulaChecksSpec)

/-- ITS FALSE NEIGHBOUR: 'it returns false'. Refute it at one input. -/
def formulaChecksWrong : ChangeSpec := { name := "formulaChecks", fn := fun _ => fun
  | [d1, d2] => { results := [.lit (.bool false)], args := [d1, d2] }
  | _ => none }
def FormulaChecksWrongFalsely : Prop := formulaChecksRow.holds Try.pinned (OpenSpec.ofChange formulaChecksWrong)

/-- 'learnerlaw45.FormulaParses': WHATEVER THE INPUT: true; the input reads as it did. -/
def formulaParsesSpec : ChangeSpec := { name := "formulaParses", fn := fun _ => fun
  | [d1, d2, d3] => { results := [.lit (.bool true)], args := [d1, d2, d3] }
  | _ => none }
def formulaParsesRow : OpenClaim := { program := "ytdmcmkccifmofaa", sum := "2ccd37eae04c43d18998e6e81b93b6e6bc4e36805ee91cf4db0f738f82f0e2aa", func := "learner/learnerlaw45.FormulaParses", spec := "formulaParses", inPlace := ["internal/bytealg.IndexByteString", "internal/abi.NoEscape"], unfollowed := true, recurses := true, apart := false }
def FormulaParsesSaid : Prop := formulaParsesRow.holds Try.pinned (OpenSpec.ofChange formulaParsesSpec)

/-- ITS FALSE NEIGHBOUR: 'it returns false'. Refute it at one input. -/
def formulaParsesWrong : ChangeSpec := { name := "formulaParses", fn := fun _ => fun
  | [d1, d2, d3] => { results := [.lit (.bool false)], args := [d1, d2, d3] }
  | _ => none }
def FormulaParsesWrongFalsely : Prop := formulaParsesRow.holds Try.pinned (OpenSpec.ofChange formulaParsesWrong)

/-- 'learnerlaw45.FormulaShows': WHATEVER THE INPUT: true; the input reads as it did. -/
def formulaShowsSpec : ChangeSpec := { name := "formulaShows", fn := fun _ => fun
  | [d1, d2, d3] => { results := [.lit (.bool true)], args := [d1, d2, d3] }
  | _ => none }
def formulaShowsRow : OpenClaim := { program := "ytdmcmkccifmofaa", sum := "2ccd37eae04c43d18998e6e81b93b6e6bc4e36805ee91cf4db0f738f82f0e2aa", func := "learner/learnerlaw45.FormulaShows", spec := "formulaShows", inPlace := ["internal/bytealg.IndexByteString", "internal/abi.NoEscape"], unfollowed := true, recurses := true, loops := true, apart := false }
def FormulaShowsSaid : Prop := formulaShowsRow.holds Try.pinned (OpenSpec.ofChange formulaShowsSpec)

/-- ITS FALSE NEIGHBOUR: 'it returns false'. Refute it at one input. -/
def formulaShowsWrong : ChangeSpec := { name := "formulaShows", fn := fun _ => fun
  | [d1, d2, d3] => { results := [.lit (.bool false)], args := [d1, d2, d3] }
  | _ => none }
def FormulaShowsWrongFalsely : Prop := formulaShowsRow.holds Try.pinned (OpenSpec.ofChange formulaShowsWrong)

/-- 'learnerlaw45.FormulaHolds': WHATEVER THE INPUT: true; the input reads as it did. -/
def formulaHoldsSpec : ChangeSpec := { name := "formulaHolds", fn := fun _ => fun
  | [d1, d2] => { results := [.lit (.bool true)], args := [d1, d2] }
  | _ => none }
def formulaHoldsRow : OpenClaim := { program := "ytdmcmkccifmofaa", sum := "2ccd37eae04c43d18998e6e81b93b6e6bc4e36805ee91cf4db0f738f82f0e2aa", func := "learner/learnerlaw45.FormulaHolds", spec := "formulaHolds", inPlace := ["internal/bytealg.IndexByteString", "internal/abi.NoEscape"], unfollowed := true, recurses := true, loops := true, apart := false }
def FormulaHoldsSaid : Prop := formulaHoldsRow.holds Try.pinned (OpenSpec.ofChange formulaHoldsSpec)

/-- ITS FALSE NEIGHBOUR: 'it returns false'. Refute it at one input. -/
def formulaHoldsWrong : ChangeSpec := { name := "formulaHolds", fn := fun _ => fun
  | [d1, d2] => { results := [.lit (.bool false)], args := [d1, d2] }
  | _ => none }
def FormulaHoldsWrongFalsely : Prop := formulaHoldsRow.holds Try.pinned (OpenSpec.ofChange formulaHoldsWrong)

/-- 'learnerlaw45.FormulaTrips': WHATEVER THE INPUT: true; the input reads as it did. -/
def formulaTripsSpec : ChangeSpec := { name := "formulaTrips", fn := fun _ => fun
  | [d] => { results := [.lit (.bool true)], args := [d] }
  | _ => none }
def formulaTripsRow : OpenClaim := { program := "ytdmcmkccifmofaa", sum := "2ccd37eae04c43d18998e6e81b93b6e6bc4e36805ee91cf4db0f738f82f0e2aa", func := "learner/learnerlaw45.FormulaTrips", spec := "formulaTrips", inPlace := ["internal/bytealg.IndexByteString", "internal/abi.NoEscape"], unfollowed := true, recurses := true, loops := true, apart := false }
def FormulaTripsSaid : Prop := formulaTripsRow.holds Try.pinned (OpenSpec.ofChange formulaTripsSpec)

/-- ITS FALSE NEIGHBOUR: 'it returns false'. Refute it at one input. -/
def formulaTripsWrong : ChangeSpec := { name := "formulaTrips", fn := fun _ => fun
  | [d] => { results := [.lit (.bool false)], args := [d] }
  | _ => none }
def FormulaTripsWrongFalsely : Prop := formulaTripsRow.holds Try.pinned (OpenSpec.ofChange formulaTripsWrong)

/-- 'learnerlaw45.FormulaDuals': WHATEVER THE INPUT: true; the input reads as it did. -/
def formulaDualsSpec : ChangeSpec := { name := "formulaDuals", fn := fun _ => fun
  | [d1, d2] => { results := [.lit (.bool true)], args := [d1, d2] }
  | _ => none }
def formulaDualsRow : OpenClaim := { program := "ytdmcmkccifmofaa", sum := "2ccd37eae04c43d18998e6e81b93b6e6bc4e36805ee91cf4db0f738f82f0e2aa", func := "learner/learnerlaw45.FormulaDuals", spec := "formulaDuals", inPlace := ["internal/bytealg.IndexByteString", "internal/abi.NoEscape"], unfollowed := true, recurses := true, loops := true, apart := false }
def FormulaDualsSaid : Prop := formulaDualsRow.holds Try.pinned (OpenSpec.ofChange formulaDualsSpec)

/-- ITS FALSE NEIGHBOUR: 'it returns false'. Refute it at one input. -/
def formulaDualsWrong : ChangeSpec := { name := "formulaDuals", fn := fun _ => fun
  | [d1, d2] => { results := [.lit (.bool false)], args := [d1, d2] }
  | _ => none }
def FormulaDualsWrongFalsely : Prop := formulaDualsRow.holds Try.pinned (OpenSpec.ofChange formulaDualsWrong)

/-- 'learnerlaw45.FormulaExpands': WHATEVER THE INPUT: true; the input reads as it did. -/
def formulaExpandsSpec : ChangeSpec := { name := "formulaExpands", fn := fun _ => fun
  | [d1, d2, d3] => { results := [.lit (.bool true)], args := [d1, d2, d3] }
  | _ => none }
def formulaExpandsRow : OpenClaim := { program := "ytdmcmkccifmofaa", sum := "2ccd37eae04c43d18998e6e81b93b6e6bc4e36805ee91cf4db0f738f82f0e2aa", func := "learner/learnerlaw45.FormulaExpands", spec := "formulaExpands", inPlace := ["internal/bytealg.IndexByteString", "internal/abi.NoEscape"], unfollowed := true, recurses := true, loops := true, apart := false }
def FormulaExpandsSaid : Prop := formulaExpandsRow.holds Try.pinned (OpenSpec.ofChange formulaExpandsSpec)

/-- ITS FALSE NEIGHBOUR: 'it returns false'. Refute it at one input. -/
def formulaExpandsWrong : ChangeSpec := { name := "formulaExpands", fn := fun _ => fun
  | [d1, d2, d3] => { results := [.lit (.bool false)], args := [d1, d2, d3] }
  | _ => none }
def FormulaExpandsWrongFalsely : Prop := formulaExpandsRow.holds Try.pinned (OpenSpec.ofChange formulaExpandsWrong)

/- THE SECOND FORM. 'bulk': how many values and letters a reading holds, each counted each time it is reached (what is shared counts as often as it is met; a slice's spare places count too). A statement '..UptoSaid' is the law's where the arguments, and the package variables that the reading takes, are together of bulk at most 1048576: NARROWER than '..Said'. Prove '..Said' where nothing that the law and all that it calls make is longer than what came in: it says more and counts as full. Else prove '..UptoSaid'. A law counts once. -/
mutual
def uptoBulk {H : Type} : DataW H → Nat
  | .lit (.string bytes) => bytes.length + 1
  | .lit _ => 1
  | .nil => 1
  | .ptr d => uptoBulk d + 1
  | .slice elems spare => uptoBulkAll elems + uptoBulkAll spare + 1
  | .agg parts => uptoBulkAll parts + 1
  | .iface _ d => uptoBulk d + 1
  | .map entries => uptoBulkEntries entries + 1
  | .held _ => 1
def uptoBulkAll {H : Type} : List (DataW H) → Nat
  | [] => 0
  | d :: r => uptoBulk d + uptoBulkAll r
def uptoBulkEntries {H : Type} : List (Lit × DataW H) → Nat
  | [] => 0
  | x :: r => uptoBulkEntry x + uptoBulkEntries r
def uptoBulkEntry {H : Type} : Lit × DataW H → Nat
  | (.string bytes, d) => bytes.length + uptoBulk d + 1
  | (_, d) => uptoBulk d + 1
 end
def uptoSmall : (H : Type) → List (DataW H) → Bool := fun _ ds => decide (uptoBulkAll ds ≤ 1048576)
def OpenSpec.upto (s : _root_.Go.ChangeSpec) : _root_.Go.OpenSpec := { _root_.Go.OpenSpec.ofChange s with cond := some uptoSmall }

/-- 'learnerlaw45.FormulaChecks', WHERE WHAT IT READS IS OF BULK AT MOST 1048576: true; the input reads as it did. -/
def formulaChecksUptoRow : OpenClaim := { program := "ytdmcmkccifmofaa", sum := "2ccd37eae04c43d18998e6e81b93b6e6bc4e36805ee91cf4db0f738f82f0e2aa", func := "learner/learnerlaw45.FormulaChecks", spec := "formulaChecks", inPlace := ["internal/bytealg.IndexByteString", "internal/abi.NoEscape"], unfollowed := true, recurses := true, loops := true, apart := false, narrowed := true }
def FormulaChecksUptoSaid : Prop := formulaChecksUptoRow.holds Try.pinned (OpenSpec.upto formulaChecksSpec)

/-- 'learnerlaw45.FormulaParses', WHERE WHAT IT READS IS OF BULK AT MOST 1048576: true; the input reads as it did. -/
def formulaParsesUptoRow : OpenClaim := { program := "ytdmcmkccifmofaa", sum := "2ccd37eae04c43d18998e6e81b93b6e6bc4e36805ee91cf4db0f738f82f0e2aa", func := "learner/learnerlaw45.FormulaParses", spec := "formulaParses", inPlace := ["internal/bytealg.IndexByteString", "internal/abi.NoEscape"], unfollowed := true, recurses := true, apart := false, narrowed := true }
def FormulaParsesUptoSaid : Prop := formulaParsesUptoRow.holds Try.pinned (OpenSpec.upto formulaParsesSpec)

/-- 'learnerlaw45.FormulaShows', WHERE WHAT IT READS IS OF BULK AT MOST 1048576: true; the input reads as it did. -/
def formulaShowsUptoRow : OpenClaim := { program := "ytdmcmkccifmofaa", sum := "2ccd37eae04c43d18998e6e81b93b6e6bc4e36805ee91cf4db0f738f82f0e2aa", func := "learner/learnerlaw45.FormulaShows", spec := "formulaShows", inPlace := ["internal/bytealg.IndexByteString", "internal/abi.NoEscape"], unfollowed := true, recurses := true, loops := true, apart := false, narrowed := true }
def FormulaShowsUptoSaid : Prop := formulaShowsUptoRow.holds Try.pinned (OpenSpec.upto formulaShowsSpec)

/-- 'learnerlaw45.FormulaHolds', WHERE WHAT IT READS IS OF BULK AT MOST 1048576: true; the input reads as it did. -/
def formulaHoldsUptoRow : OpenClaim := { program := "ytdmcmkccifmofaa", sum := "2ccd37eae04c43d18998e6e81b93b6e6bc4e36805ee91cf4db0f738f82f0e2aa", func := "learner/learnerlaw45.FormulaHolds", spec := "formulaHolds", inPlace := ["internal/bytealg.IndexByteString", "internal/abi.NoEscape"], unfollowed := true, recurses := true, loops := true, apart := false, narrowed := true }
def FormulaHoldsUptoSaid : Prop := formulaHoldsUptoRow.holds Try.pinned (OpenSpec.upto formulaHoldsSpec)

/-- 'learnerlaw45.FormulaTrips', WHERE WHAT IT READS IS OF BULK AT MOST 1048576: true; the input reads as it did. -/
def formulaTripsUptoRow : OpenClaim := { program := "ytdmcmkccifmofaa", sum := "2ccd37eae04c43d18998e6e81b93b6e6bc4e36805ee91cf4db0f738f82f0e2aa", func := "learner/learnerlaw45.FormulaTrips", spec := "formulaTrips", inPlace := ["internal/bytealg.IndexByteString", "internal/abi.NoEscape"], unfollowed := true, recurses := true, loops := true, apart := false, narrowed := true }
def FormulaTripsUptoSaid : Prop := formulaTripsUptoRow.holds Try.pinned (OpenSpec.upto formulaTripsSpec)

/-- 'learnerlaw45.FormulaDuals', WHERE WHAT IT READS IS OF BULK AT MOST 1048576: true; the input reads as it did. -/
def formulaDualsUptoRow : OpenClaim := { program := "ytdmcmkccifmofaa", sum := "2ccd37eae04c43d18998e6e81b93b6e6bc4e36805ee91cf4db0f738f82f0e2aa", func := "learner/learnerlaw45.FormulaDuals", spec := "formulaDuals", inPlace := ["internal/bytealg.IndexByteString", "internal/abi.NoEscape"], unfollowed := true, recurses := true, loops := true, apart := false, narrowed := true }
def FormulaDualsUptoSaid : Prop := formulaDualsUptoRow.holds Try.pinned (OpenSpec.upto formulaDualsSpec)

/-- 'learnerlaw45.FormulaExpands', WHERE WHAT IT READS IS OF BULK AT MOST 1048576: true; the input reads as it did. -/
def formulaExpandsUptoRow : OpenClaim := { program := "ytdmcmkccifmofaa", sum := "2ccd37eae04c43d18998e6e81b93b6e6bc4e36805ee91cf4db0f738f82f0e2aa", func := "learner/learnerlaw45.FormulaExpands", spec := "formulaExpands", inPlace := ["internal/bytealg.IndexByteString", "internal/abi.NoEscape"], unfollowed := true, recurses := true, loops := true, apart := false, narrowed := true }
def FormulaExpandsUptoSaid : Prop := formulaExpandsUptoRow.holds Try.pinned (OpenSpec.upto formulaExpandsSpec)

end Rows
end Go.Proofs.Ytdmcmkccifmofaa
