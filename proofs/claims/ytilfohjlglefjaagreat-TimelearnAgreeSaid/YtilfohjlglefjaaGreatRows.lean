/-
  No cell of these rows narrows 'for every input' (looked for: loops, veiled, ifaces, maps, wideKeys, modest, calm, conditions, laid).
  DERIVED. THE GIVEN ROWS OF THIS SEAT. 6 by the template 'for every input the law returns true; each argument reads behind the call as it read before'; 0 by the template 'total and deterministic' (their statements: YtilfohjlglefjaaGreatTotals.lean).
  GIVEN WITH THE SEED: the statements are not yours to turn. If you find one false, say at which input.
  Laid BY PROGRAM, IN A SANDBOX (cutbox-rows.mjs): the forced cells as the released guide's own fill.sh prints them over the translation 5cd2a805d4b2e30f… (all of the seat's roots in one cut). By AI agents, Wed Nov 11 2026. No macro, syntax, notation, axiom, sorry.
-/
import Derived.Test.YtilfohjlglefjaaGreatChecked
import GoSem.Claim
import GoSem.ClaimJoined
import GoSem.ClaimMapViews
import Derived.JoinedTies
import Derived.KernelRfl
namespace Go.Proofs.YtilfohjlglefjaaGreat
/- THE CELL 'sum', in the pinned program and in every row, IS THE sha256 OF THE DUMP (.gsa) THAT YtilfohjlglefjaaGreatProg.lean LOADS. Nothing in Lean hashes anything: it is a label: what it is worth is what the hold of that sum in a sandbox is worth. -/
noncomputable def Tryz.pinned : Pinned := { name := "ytilfohjlglefjaagreat", sum := "5cd2a805d4b2e30fb5f1c767d186eb5093102ab1fbdd4ab0d08315d9fbe40a47", checked := Tryz.checked }
namespace Rows
def none {H : Type} : Left H := { results := [], args := [] }

/-- 'learnerlaw42.TimelearnRebuilds': WHATEVER THE INPUT: true; the input reads as it did. -/
def timelearnRebuildsSpec : ChangeSpec := { name := "timelearnRebuilds", fn := fun _ => fun
  | [d1, d2, d3] => { results := [.lit (.bool true)], args := [d1, d2, d3] }
  | _ => none }
def timelearnRebuildsRow : OpenClaim := { program := "ytilfohjlglefjaagreat", sum := "5cd2a805d4b2e30fb5f1c767d186eb5093102ab1fbdd4ab0d08315d9fbe40a47", func := "learner/learnerlaw42.TimelearnRebuilds", spec := "timelearnRebuilds", inPlace := ["slices.overlaps[[]int]", "slices.overlaps[int]", "slices.overlaps[learner/api.Trace]"], unfollowed := true, recurses := true, plainKeys := false, apart := false }
def TimelearnRebuildsSaid : Prop := timelearnRebuildsRow.holds Tryz.pinned (OpenSpec.ofChange timelearnRebuildsSpec)

/-- ITS FALSE NEIGHBOUR: 'it returns false'. Refute it at one input. -/
def timelearnRebuildsWrong : ChangeSpec := { name := "timelearnRebuilds", fn := fun _ => fun
  | [d1, d2, d3] => { results := [.lit (.bool false)], args := [d1, d2, d3] }
  | _ => none }
def TimelearnRebuildsWrongFalsely : Prop := timelearnRebuildsRow.holds Tryz.pinned (OpenSpec.ofChange timelearnRebuildsWrong)

/-- 'learnerlaw42.TimelearnCompares': WHATEVER THE INPUT: true; the input reads as it did. -/
def timelearnComparesSpec : ChangeSpec := { name := "timelearnCompares", fn := fun _ => fun
  | [d1, d2] => { results := [.lit (.bool true)], args := [d1, d2] }
  | _ => none }
def timelearnComparesRow : OpenClaim := { program := "ytilfohjlglefjaagreat", sum := "5cd2a805d4b2e30fb5f1c767d186eb5093102ab1fbdd4ab0d08315d9fbe40a47", func := "learner/learnerlaw42.TimelearnCompares", spec := "timelearnCompares", inPlace := ["slices.overlaps[[]int]", "slices.overlaps[int]", "slices.overlaps[learner/api.Trace]"], unfollowed := true, recurses := true, plainKeys := false, apart := false }
def TimelearnComparesSaid : Prop := timelearnComparesRow.holds Tryz.pinned (OpenSpec.ofChange timelearnComparesSpec)

/-- ITS FALSE NEIGHBOUR: 'it returns false'. Refute it at one input. -/
def timelearnComparesWrong : ChangeSpec := { name := "timelearnCompares", fn := fun _ => fun
  | [d1, d2] => { results := [.lit (.bool false)], args := [d1, d2] }
  | _ => none }
def TimelearnComparesWrongFalsely : Prop := timelearnComparesRow.holds Tryz.pinned (OpenSpec.ofChange timelearnComparesWrong)

/-- 'learnerlaw42.TimelearnRuns': WHATEVER THE INPUT: true; the input reads as it did. -/
def timelearnRunsSpec : ChangeSpec := { name := "timelearnRuns", fn := fun _ => fun
  | [d] => { results := [.lit (.bool true)], args := [d] }
  | _ => none }
def timelearnRunsRow : OpenClaim := { program := "ytilfohjlglefjaagreat", sum := "5cd2a805d4b2e30fb5f1c767d186eb5093102ab1fbdd4ab0d08315d9fbe40a47", func := "learner/learnerlaw42.TimelearnRuns", spec := "timelearnRuns", inPlace := ["slices.overlaps[[]int]", "slices.overlaps[int]", "slices.overlaps[learner/api.Trace]"], unfollowed := true, recurses := true, plainKeys := false, apart := false }
def TimelearnRunsSaid : Prop := timelearnRunsRow.holds Tryz.pinned (OpenSpec.ofChange timelearnRunsSpec)

/-- ITS FALSE NEIGHBOUR: 'it returns false'. Refute it at one input. -/
def timelearnRunsWrong : ChangeSpec := { name := "timelearnRuns", fn := fun _ => fun
  | [d] => { results := [.lit (.bool false)], args := [d] }
  | _ => none }
def TimelearnRunsWrongFalsely : Prop := timelearnRunsRow.holds Tryz.pinned (OpenSpec.ofChange timelearnRunsWrong)

/-- 'learnerlaw42.TimelearnInverse': WHATEVER THE INPUT: true; the input reads as it did. -/
def timelearnInverseSpec : ChangeSpec := { name := "timelearnInverse", fn := fun _ => fun
  | [d1, d2, d3] => { results := [.lit (.bool true)], args := [d1, d2, d3] }
  | _ => none }
def timelearnInverseRow : OpenClaim := { program := "ytilfohjlglefjaagreat", sum := "5cd2a805d4b2e30fb5f1c767d186eb5093102ab1fbdd4ab0d08315d9fbe40a47", func := "learner/learnerlaw42.TimelearnInverse", spec := "timelearnInverse", inPlace := ["slices.overlaps[[]int]", "slices.overlaps[int]", "slices.overlaps[learner/api.Trace]"], unfollowed := true, recurses := true, plainKeys := false, apart := false }
def TimelearnInverseSaid : Prop := timelearnInverseRow.holds Tryz.pinned (OpenSpec.ofChange timelearnInverseSpec)

/-- ITS FALSE NEIGHBOUR: 'it returns false'. Refute it at one input. -/
def timelearnInverseWrong : ChangeSpec := { name := "timelearnInverse", fn := fun _ => fun
  | [d1, d2, d3] => { results := [.lit (.bool false)], args := [d1, d2, d3] }
  | _ => none }
def TimelearnInverseWrongFalsely : Prop := timelearnInverseRow.holds Tryz.pinned (OpenSpec.ofChange timelearnInverseWrong)

/-- 'learnerlaw42.TimelearnAgree': WHATEVER THE INPUT: true; the input reads as it did. -/
def timelearnAgreeSpec : ChangeSpec := { name := "timelearnAgree", fn := fun _ => fun
  | [d] => { results := [.lit (.bool true)], args := [d] }
  | _ => none }
def timelearnAgreeRow : OpenClaim := { program := "ytilfohjlglefjaagreat", sum := "5cd2a805d4b2e30fb5f1c767d186eb5093102ab1fbdd4ab0d08315d9fbe40a47", func := "learner/learnerlaw42.TimelearnAgree", spec := "timelearnAgree", inPlace := ["slices.overlaps[[]int]", "slices.overlaps[int]", "slices.overlaps[learner/api.Trace]"], unfollowed := true, recurses := true, plainKeys := false, apart := false }
def TimelearnAgreeSaid : Prop := timelearnAgreeRow.holds Tryz.pinned (OpenSpec.ofChange timelearnAgreeSpec)

/-- ITS FALSE NEIGHBOUR: 'it returns false'. Refute it at one input. -/
def timelearnAgreeWrong : ChangeSpec := { name := "timelearnAgree", fn := fun _ => fun
  | [d] => { results := [.lit (.bool false)], args := [d] }
  | _ => none }
def TimelearnAgreeWrongFalsely : Prop := timelearnAgreeRow.holds Tryz.pinned (OpenSpec.ofChange timelearnAgreeWrong)

/-- 'learnerlaw42.TimelearnEqual': WHATEVER THE INPUT: true; the input reads as it did. -/
def timelearnEqualSpec : ChangeSpec := { name := "timelearnEqual", fn := fun _ => fun
  | [d1, d2, d3] => { results := [.lit (.bool true)], args := [d1, d2, d3] }
  | _ => none }
def timelearnEqualRow : OpenClaim := { program := "ytilfohjlglefjaagreat", sum := "5cd2a805d4b2e30fb5f1c767d186eb5093102ab1fbdd4ab0d08315d9fbe40a47", func := "learner/learnerlaw42.TimelearnEqual", spec := "timelearnEqual", inPlace := ["slices.overlaps[[]int]", "slices.overlaps[int]", "slices.overlaps[learner/api.Trace]"], unfollowed := true, recurses := true, plainKeys := false, apart := false }
def TimelearnEqualSaid : Prop := timelearnEqualRow.holds Tryz.pinned (OpenSpec.ofChange timelearnEqualSpec)

/-- ITS FALSE NEIGHBOUR: 'it returns false'. Refute it at one input. -/
def timelearnEqualWrong : ChangeSpec := { name := "timelearnEqual", fn := fun _ => fun
  | [d1, d2, d3] => { results := [.lit (.bool false)], args := [d1, d2, d3] }
  | _ => none }
def TimelearnEqualWrongFalsely : Prop := timelearnEqualRow.holds Tryz.pinned (OpenSpec.ofChange timelearnEqualWrong)

/- THE SECOND FORM. 'bulk': how many values and letters a reading holds, each counted each time it is reached (what is shared counts as often as it is met; a slice's spare places count too). A statement '..UptoSaid' is the law's where the arguments, and the package variables that the reading takes, are together of bulk at most 1048576: NARROWER than '..Said'. Prove '..Said' where nothing that the law and all that it calls make is longer than what came in: it says more and counts as full. Else prove '..UptoSaid'. A law counts once. -/
mutual
def uptoBulk {H : Type} : DataW H → Nat
  | .lit (.string bytes) => bytes.length + 1
  | .lit _ => 1
  | .nil => 1
  | .ptr d => uptoBulk d + 1
  | .slice elems spare => uptoBulkAll elems + uptoBulkAll spare + 1
  | .agg parts => uptoBulkAll parts + 1
  | .iface _ d => uptoBulk d + 1
  | .map entries => uptoBulkEntries entries + 1
  | .held _ => 1
def uptoBulkAll {H : Type} : List (DataW H) → Nat
  | [] => 0
  | d :: r => uptoBulk d + uptoBulkAll r
def uptoBulkEntries {H : Type} : List (Lit × DataW H) → Nat
  | [] => 0
  | x :: r => uptoBulkEntry x + uptoBulkEntries r
def uptoBulkEntry {H : Type} : Lit × DataW H → Nat
  | (.string bytes, d) => bytes.length + uptoBulk d + 1
  | (_, d) => uptoBulk d + 1
 end
def uptoSmall : (H : Type) → List (DataW H) → Bool := fun _ ds => decide (uptoBulkAll ds ≤ 1048576)
def OpenSpec.upto (s : _root_.Go.ChangeSpec) : _root_.Go.OpenSpec := { _root_.Go.OpenSpec.ofChange s with cond := some uptoSmall }

/-- 'learnerlaw42.TimelearnRebuilds', WHERE WHAT IT READS IS OF BULK AT MOST 1048576: true; the input reads as it did. -/
def timelearnRebuildsUptoRow : OpenClaim := { program := "ytilfohjlglefjaagreat", sum := "5cd2a805d4b2e30fb5f1c767d186eb5093102ab1fbdd4ab0d08315d9fbe40a47", func := "learner/learnerlaw42.TimelearnRebuilds", spec := "timelearnRebuilds", inPlace := ["slices.overlaps[[]int]", "slices.overlaps[int]", "slices.overlaps[learner/api.Trace]"], unfollowed := true, recurses := true, plainKeys := false, apart := false, narrowed := true }
def TimelearnRebuildsUptoSaid : Prop := timelearnRebuildsUptoRow.holds Tryz.pinned (OpenSpec.upto timelearnRebuildsSpec)

/-- 'learnerlaw42.TimelearnCompares', WHERE WHAT IT READS IS OF BULK AT MOST 1048576: true; the input reads as it did. -/
def timelearnComparesUptoRow : OpenClaim := { program := "ytilfohjlglefjaagreat", sum := "5cd2a805d4b2e30fb5f1c767d186eb5093102ab1fbdd4ab0d08315d9fbe40a47", func := "learner/learnerlaw42.TimelearnCompares", spec := "timelearnCompares", inPlace := ["slices.overlaps[[]int]", "slices.overlaps[int]", "slices.overlaps[learner/api.Trace]"], unfollowed := true, recurses := true, plainKeys := false, apart := false, narrowed := true }
def TimelearnComparesUptoSaid : Prop := timelearnComparesUptoRow.holds Tryz.pinned (OpenSpec.upto timelearnComparesSpec)

/-- 'learnerlaw42.TimelearnRuns', WHERE WHAT IT READS IS OF BULK AT MOST 1048576: true; the input reads as it did. -/
def timelearnRunsUptoRow : OpenClaim := { program := "ytilfohjlglefjaagreat", sum := "5cd2a805d4b2e30fb5f1c767d186eb5093102ab1fbdd4ab0d08315d9fbe40a47", func := "learner/learnerlaw42.TimelearnRuns", spec := "timelearnRuns", inPlace := ["slices.overlaps[[]int]", "slices.overlaps[int]", "slices.overlaps[learner/api.Trace]"], unfollowed := true, recurses := true, plainKeys := false, apart := false, narrowed := true }
def TimelearnRunsUptoSaid : Prop := timelearnRunsUptoRow.holds Tryz.pinned (OpenSpec.upto timelearnRunsSpec)

/-- 'learnerlaw42.TimelearnInverse', WHERE WHAT IT READS IS OF BULK AT MOST 1048576: true; the input reads as it did. -/
def timelearnInverseUptoRow : OpenClaim := { program := "ytilfohjlglefjaagreat", sum := "5cd2a805d4b2e30fb5f1c767d186eb5093102ab1fbdd4ab0d08315d9fbe40a47", func := "learner/learnerlaw42.TimelearnInverse", spec := "timelearnInverse", inPlace := ["slices.overlaps[[]int]", "slices.overlaps[int]", "slices.overlaps[learner/api.Trace]"], unfollowed := true, recurses := true, plainKeys := false, apart := false, narrowed := true }
def TimelearnInverseUptoSaid : Prop := timelearnInverseUptoRow.holds Tryz.pinned (OpenSpec.upto timelearnInverseSpec)

/-- 'learnerlaw42.TimelearnAgree', WHERE WHAT IT READS IS OF BULK AT MOST 1048576: true; the input reads as it did. -/
def timelearnAgreeUptoRow : OpenClaim := { program := "ytilfohjlglefjaagreat", sum := "5cd2a805d4b2e30fb5f1c767d186eb5093102ab1fbdd4ab0d08315d9fbe40a47", func := "learner/learnerlaw42.TimelearnAgree", spec := "timelearnAgree", inPlace := ["slices.overlaps[[]int]", "slices.overlaps[int]", "slices.overlaps[learner/api.Trace]"], unfollowed := true, recurses := true, plainKeys := false, apart := false, narrowed := true }
def TimelearnAgreeUptoSaid : Prop := timelearnAgreeUptoRow.holds Tryz.pinned (OpenSpec.upto timelearnAgreeSpec)

/-- 'learnerlaw42.TimelearnEqual', WHERE WHAT IT READS IS OF BULK AT MOST 1048576: true; the input reads as it did. -/
def timelearnEqualUptoRow : OpenClaim := { program := "ytilfohjlglefjaagreat", sum := "5cd2a805d4b2e30fb5f1c767d186eb5093102ab1fbdd4ab0d08315d9fbe40a47", func := "learner/learnerlaw42.TimelearnEqual", spec := "timelearnEqual", inPlace := ["slices.overlaps[[]int]", "slices.overlaps[int]", "slices.overlaps[learner/api.Trace]"], unfollowed := true, recurses := true, plainKeys := false, apart := false, narrowed := true }
def TimelearnEqualUptoSaid : Prop := timelearnEqualUptoRow.holds Tryz.pinned (OpenSpec.upto timelearnEqualSpec)

end Rows
end Go.Proofs.YtilfohjlglefjaaGreat
