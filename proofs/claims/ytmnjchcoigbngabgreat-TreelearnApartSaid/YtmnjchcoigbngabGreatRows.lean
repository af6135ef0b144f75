/-
  No cell of these rows narrows 'for every input' (looked for: loops, veiled, ifaces, maps, wideKeys, modest, calm, conditions, laid).
  DERIVED. THE GIVEN ROWS OF THIS SEAT. 7 by the template 'for every input the law returns true; each argument reads behind the call as it read before'; 0 by the template 'total and deterministic' (their statements: YtmnjchcoigbngabGreatTotals.lean).
  GIVEN WITH THE SEED: the statements are not yours to turn. If you find one false, say at which input.
  Laid BY PROGRAM, IN A SANDBOX (cutbox-rows.mjs): the forced cells as the released guide's own fill.sh prints them over the translation 03dd0b5cad5639ea… (all of the seat's roots in one cut). By AI agents, Wed Nov 11 2026. No macro, syntax, notation, axiom, sorry.
-/
import Derived.Test.YtmnjchcoigbngabGreatChecked
import GoSem.Claim
import GoSem.ClaimJoined
import GoSem.ClaimMapViews
import Derived.JoinedTies
import Derived.KernelRfl
namespace Go.Proofs.YtmnjchcoigbngabGreat
/- THE CELL 'sum', in the pinned program and in every row, IS THE sha256 OF THE DUMP (.gsa) THAT YtmnjchcoigbngabGreatProg.lean LOADS. Nothing in Lean hashes anything: it is a label: what it is worth is what the hold of that sum in a sandbox is worth. -/
noncomputable def Tryz.pinned : Pinned := { name := "ytmnjchcoigbngabgreat", sum := "03dd0b5cad5639ea29a0ba68bf1607c545d6c6d9431eb0f63c1102f8b3e47da7", checked := Tryz.checked }
namespace Rows
def none {H : Type} : Left H := { results := [], args := [] }

/-- 'learnerlaw27.TreelearnSteps': WHATEVER THE INPUT: true; the input reads as it did. -/
def treelearnStepsSpec : ChangeSpec := { name := "treelearnSteps", fn := fun _ => fun
  | [d1, d2, d3] => { results := [.lit (.bool true)], args := [d1, d2, d3] }
  | _ => none }
def treelearnStepsRow : OpenClaim := { program := "ytmnjchcoigbngabgreat", sum := "03dd0b5cad5639ea29a0ba68bf1607c545d6c6d9431eb0f63c1102f8b3e47da7", func := "learner/learnerlaw27.TreelearnSteps", spec := "treelearnSteps", inPlace := ["slices.overlaps[[]int]", "slices.overlaps[int]"], unfollowed := true, recurses := true, apart := false }
def TreelearnStepsSaid : Prop := treelearnStepsRow.holds Tryz.pinned (OpenSpec.ofChange treelearnStepsSpec)

/-- ITS FALSE NEIGHBOUR: 'it returns false'. Refute it at one input. -/
def treelearnStepsWrong : ChangeSpec := { name := "treelearnSteps", fn := fun _ => fun
  | [d1, d2, d3] => { results := [.lit (.bool false)], args := [d1, d2, d3] }
  | _ => none }
def TreelearnStepsWrongFalsely : Prop := treelearnStepsRow.holds Tryz.pinned (OpenSpec.ofChange treelearnStepsWrong)

/-- 'learnerlaw27.TreelearnHypothesis': WHATEVER THE INPUT: true; the input reads as it did. -/
def treelearnHypothesisSpec : ChangeSpec := { name := "treelearnHypothesis", fn := fun _ => fun
  | [d1, d2] => { results := [.lit (.bool true)], args := [d1, d2] }
  | _ => none }
def treelearnHypothesisRow : OpenClaim := { program := "ytmnjchcoigbngabgreat", sum := "03dd0b5cad5639ea29a0ba68bf1607c545d6c6d9431eb0f63c1102f8b3e47da7", func := "learner/learnerlaw27.TreelearnHypothesis", spec := "treelearnHypothesis", inPlace := ["slices.overlaps[[]int]", "slices.overlaps[int]"], unfollowed := true, recurses := true, apart := false }
def TreelearnHypothesisSaid : Prop := treelearnHypothesisRow.holds Tryz.pinned (OpenSpec.ofChange treelearnHypothesisSpec)

/-- ITS FALSE NEIGHBOUR: 'it returns false'. Refute it at one input. -/
def treelearnHypothesisWrong : ChangeSpec := { name := "treelearnHypothesis", fn := fun _ => fun
  | [d1, d2] => { results := [.lit (.bool false)], args := [d1, d2] }
  | _ => none }
def TreelearnHypothesisWrongFalsely : Prop := treelearnHypothesisRow.holds Tryz.pinned (OpenSpec.ofChange treelearnHypothesisWrong)

/-- 'learnerlaw27.TreelearnRefines': WHATEVER THE INPUT: true; the input reads as it did. -/
def treelearnRefinesSpec : ChangeSpec := { name := "treelearnRefines", fn := fun _ => fun
  | [d1, d2, d3] => { results := [.lit (.bool true)], args := [d1, d2, d3] }
  | _ => none }
def treelearnRefinesRow : OpenClaim := { program := "ytmnjchcoigbngabgreat", sum := "03dd0b5cad5639ea29a0ba68bf1607c545d6c6d9431eb0f63c1102f8b3e47da7", func := "learner/learnerlaw27.TreelearnRefines", spec := "treelearnRefines", inPlace := ["slices.overlaps[[]int]", "slices.overlaps[int]"], unfollowed := true, recurses := true, apart := false }
def TreelearnRefinesSaid : Prop := treelearnRefinesRow.holds Tryz.pinned (OpenSpec.ofChange treelearnRefinesSpec)

/-- ITS FALSE NEIGHBOUR: 'it returns false'. Refute it at one input. -/
def treelearnRefinesWrong : ChangeSpec := { name := "treelearnRefines", fn := fun _ => fun
  | [d1, d2, d3] => { results := [.lit (.bool false)], args := [d1, d2, d3] }
  | _ => none }
def TreelearnRefinesWrongFalsely : Prop := treelearnRefinesRow.holds Tryz.pinned (OpenSpec.ofChange treelearnRefinesWrong)

/-- 'learnerlaw27.TreelearnGrows': WHATEVER THE INPUT: true; the input reads as it did. -/
def treelearnGrowsSpec : ChangeSpec := { name := "treelearnGrows", fn := fun _ => fun
  | [d1, d2, d3] => { results := [.lit (.bool true)], args := [d1, d2, d3] }
  | _ => none }
def treelearnGrowsRow : OpenClaim := { program := "ytmnjchcoigbngabgreat", sum := "03dd0b5cad5639ea29a0ba68bf1607c545d6c6d9431eb0f63c1102f8b3e47da7", func := "learner/learnerlaw27.TreelearnGrows", spec := "treelearnGrows", inPlace := ["slices.overlaps[[]int]", "slices.overlaps[int]"], unfollowed := true, recurses := true, apart := false }
def TreelearnGrowsSaid : Prop := treelearnGrowsRow.holds Tryz.pinned (OpenSpec.ofChange treelearnGrowsSpec)

/-- ITS FALSE NEIGHBOUR: 'it returns false'. Refute it at one input. -/
def treelearnGrowsWrong : ChangeSpec := { name := "treelearnGrows", fn := fun _ => fun
  | [d1, d2, d3] => { results := [.lit (.bool false)], args := [d1, d2, d3] }
  | _ => none }
def TreelearnGrowsWrongFalsely : Prop := treelearnGrowsRow.holds Tryz.pinned (OpenSpec.ofChange treelearnGrowsWrong)

/-- 'learnerlaw27.TreelearnApart': WHATEVER THE INPUT: true; the input reads as it did. -/
def treelearnApartSpec : ChangeSpec := { name := "treelearnApart", fn := fun _ => fun
  | [d] => { results := [.lit (.bool true)], args := [d] }
  | _ => none }
def treelearnApartRow : OpenClaim := { program := "ytmnjchcoigbngabgreat", sum := "03dd0b5cad5639ea29a0ba68bf1607c545d6c6d9431eb0f63c1102f8b3e47da7", func := "learner/learnerlaw27.TreelearnApart", spec := "treelearnApart", inPlace := ["slices.overlaps[[]int]", "slices.overlaps[int]"], unfollowed := true, recurses := true, apart := false }
def TreelearnApartSaid : Prop := treelearnApartRow.holds Tryz.pinned (OpenSpec.ofChange treelearnApartSpec)

/-- ITS FALSE NEIGHBOUR: 'it returns false'. Refute it at one input. -/
def treelearnApartWrong : ChangeSpec := { name := "treelearnApart", fn := fun _ => fun
  | [d] => { results := [.lit (.bool false)], args := [d] }
  | _ => none }
def TreelearnApartWrongFalsely : Prop := treelearnApartRow.holds Tryz.pinned (OpenSpec.ofChange treelearnApartWrong)

/-- 'learnerlaw27.TreelearnRuns': WHATEVER THE INPUT: true; the input reads as it did. -/
def treelearnRunsSpec : ChangeSpec := { name := "treelearnRuns", fn := fun _ => fun
  | [d] => { results := [.lit (.bool true)], args := [d] }
  | _ => none }
def treelearnRunsRow : OpenClaim := { program := "ytmnjchcoigbngabgreat", sum := "03dd0b5cad5639ea29a0ba68bf1607c545d6c6d9431eb0f63c1102f8b3e47da7", func := "learner/learnerlaw27.TreelearnRuns", spec := "treelearnRuns", inPlace := ["slices.overlaps[[]int]", "slices.overlaps[int]", "slices.overlaps[learner/api.Trace]"], unfollowed := true, recurses := true, apart := false }
def TreelearnRunsSaid : Prop := treelearnRunsRow.holds Tryz.pinned (OpenSpec.ofChange treelearnRunsSpec)

/-- ITS FALSE NEIGHBOUR: 'it returns false'. Refute it at one input. -/
def treelearnRunsWrong : ChangeSpec := { name := "treelearnRuns", fn := fun _ => fun
  | [d] => { results := [.lit (.bool false)], args := [d] }
  | _ => none }
def TreelearnRunsWrongFalsely : Prop := treelearnRunsRow.holds Tryz.pinned (OpenSpec.ofChange treelearnRunsWrong)

/-- 'learnerlaw27.TreelearnLearns': WHATEVER THE INPUT: true; the input reads as it did. -/
def treelearnLearnsSpec : ChangeSpec := { name := "treelearnLearns", fn := fun _ => fun
  | [d] => { results := [.lit (.bool true)], args := [d] }
  | _ => none }
def treelearnLearnsRow : OpenClaim := { program := "ytmnjchcoigbngabgreat", sum := "03dd0b5cad5639ea29a0ba68bf1607c545d6c6d9431eb0f63c1102f8b3e47da7", func := "learner/learnerlaw27.TreelearnLearns", spec := "treelearnLearns", inPlace := ["slices.overlaps[[]int]", "slices.overlaps[int]", "slices.overlaps[learner/api.Trace]"], unfollowed := true, recurses := true, apart := false }
def TreelearnLearnsSaid : Prop := treelearnLearnsRow.holds Tryz.pinned (OpenSpec.ofChange treelearnLearnsSpec)

/-- ITS FALSE NEIGHBOUR: 'it returns false'. Refute it at one input. -/
def treelearnLearnsWrong : ChangeSpec := { name := "treelearnLearns", fn := fun _ => fun
  | [d] => { results := [.lit (.bool false)], args := [d] }
  | _ => none }
def TreelearnLearnsWrongFalsely : Prop := treelearnLearnsRow.holds Tryz.pinned (OpenSpec.ofChange treelearnLearnsWrong)

/- THE SECOND FORM. 'bulk': how many values and letters a reading holds, each counted each time it is reached (what is shared counts as often as it is met; a slice's spare places count too). A statement '..UptoSaid' is the law's where the arguments, and the package variables that the reading takes, are together of bulk at most 1048576: NARROWER than '..Said'. Prove '..Said' where nothing that the law and all that it calls make is longer than what came in: it says more and counts as full. Else prove '..UptoSaid'. A law counts once. -/
mutual
def uptoBulk {H : Type} : DataW H → Nat
  | .lit (.string bytes) => bytes.length + 1
  | .lit _ => 1
  | .nil => 1
  | .ptr d => uptoBulk d + 1
  | .slice elems spare => uptoBulkAll elems + uptoBulkAll spare + 1
  | .agg parts => uptoBulkAll parts + 1
  | .iface _ d => uptoBulk d + 1
  | .map entries => uptoBulkEntries entries + 1
  | .held _ => 1
def uptoBulkAll {H : Type} : List (DataW H) → Nat
  | [] => 0
  | d :: r => uptoBulk d + uptoBulkAll r
def uptoBulkEntries {H : Type} : List (Lit × DataW H) → Nat
  | [] => 0
  | x :: r => uptoBulkEntry x + uptoBulkEntries r
def uptoBulkEntry {H : Type} : Lit × DataW H → Nat
  | (.string bytes, d) => bytes.length + uptoBulk d + 1
  | (_, d) => uptoBulk d + 1
 end
def uptoSmall : (H : Type) → List (DataW H) → Bool := fun _ ds => decide (uptoBulkAll ds ≤ 1048576)
def OpenSpec.upto (s : _root_.Go.ChangeSpec) : _root_.Go.OpenSpec := { _root_.Go.OpenSpec.ofChange s with cond := some uptoSmall }

/-- 'learnerlaw27.TreelearnSteps', WHERE WHAT IT READS IS OF BULK AT MOST 1048576: true; the input reads as it did. -/
def treelearnStepsUptoRow : OpenClaim := { program := "ytmnjchcoigbngabgreat", sum := "03dd0b5cad5639ea29a0ba68bf1607c545d6c6d9431eb0f63c1102f8b3e47da7", func := "learner/learnerlaw27.TreelearnSteps", spec := "treelearnSteps", inPlace := ["slices.overlaps[[]int]", "slices.overlaps[int]"], unfollowed := true, recurses := true, apart := false, narrowed := true }
def TreelearnStepsUptoSaid : Prop := treelearnStepsUptoRow.holds Tryz.pinned (OpenSpec.upto treelearnStepsSpec)

/-- 'learnerlaw27.TreelearnHypothesis', WHERE WHAT IT READS IS OF BULK AT MOST 1048576: true; the input reads as it did. -/
def treelearnHypothesisUptoRow : OpenClaim := { program := "ytmnjchcoigbngabgreat", sum := "03dd0b5cad5639ea29a0ba68bf1607c545d6c6d9431eb0f63c1102f8b3e47da7", func := "learner/learnerlaw27.TreelearnHypothesis", spec := "treelearnHypothesis", inPlace := ["slices.overlaps[[]int]", "slices.overlaps[int]"], unfollowed := true, recurses := true, apart := false, narrowed := true }
def TreelearnHypothesisUptoSaid : Prop := treelearnHypothesisUptoRow.holds Tryz.pinned (OpenSpec.upto treelearnHypothesisSpec)

/-- 'learnerlaw27.TreelearnRefines', WHERE WHAT IT READS IS OF BULK AT MOST 1048576: true; the input reads as it did. -/
def treelearnRefinesUptoRow : OpenClaim := { program := "ytmnjchcoigbngabgreat", sum := "03dd0b5cad5639ea29a0ba68bf1607c545d6c6d9431eb0f63c1102f8b3e47da7", func := "learner/learnerlaw27.TreelearnRefines", spec := "treelearnRefines", inPlace := ["slices.overlaps[[]int]", "slices.overlaps[int]"], unfollowed := true, recurses := true, apart := false, narrowed := true }
def TreelearnRefinesUptoSaid : Prop := treelearnRefinesUptoRow.holds Tryz.pinned (OpenSpec.upto treelearnRefinesSpec)

/-- 'learnerlaw27.TreelearnGrows', WHERE WHAT IT READS IS OF BULK AT MOST 1048576: true; the input reads as it did. -/
def treelearnGrowsUptoRow : OpenClaim := { program := "ytmnjchcoigbngabgreat", sum := "03dd0b5cad5639ea29a0ba68bf1607c545d6c6d9431eb0f63c1102f8b3e47da7", func := "learner/learnerlaw27.TreelearnGrows", spec := "treelearnGrows", inPlace := ["slices.overlaps[[]int]", "slices.overlaps[int]"], unfollowed := true, recurses := true, apart := false, narrowed := true }
def TreelearnGrowsUptoSaid : Prop := treelearnGrowsUptoRow.holds Tryz.pinned (OpenSpec.upto treelearnGrowsSpec)

/-- 'learnerlaw27.TreelearnApart', WHERE WHAT IT READS IS OF BULK AT MOST 1048576: true; the input reads as it did. -/
def treelearnApartUptoRow : OpenClaim := { program := "ytmnjchcoigbngabgreat", sum := "03dd0b5cad5639ea29a0ba68bf1607c545d6c6d9431eb0f63c1102f8b3e47da7", func := "learner/learnerlaw27.TreelearnApart", spec := "treelearnApart", inPlace := ["slices.overlaps[[]int]", "slices.overlaps[int]"], unfollowed := true, recurses := true, apart := false, narrowed := true }
def TreelearnApartUptoSaid : Prop := treelearnApartUptoRow.holds Tryz.pinned (OpenSpec.upto treelearnApartSpec)

/-- 'learnerlaw27.TreelearnRuns', WHERE WHAT IT READS IS OF BULK AT MOST 1048576: true; the input reads as it did. -/
def treelearnRunsUptoRow : OpenClaim := { program := "ytmnjchcoigbngabgreat", sum := "03dd0b5cad5639ea29a0ba68bf1607c545d6c6d9431eb0f63c1102f8b3e47da7", func := "learner/learnerlaw27.TreelearnRuns", spec := "treelearnRuns", inPlace := ["slices.overlaps[[]int]", "slices.overlaps[int]", "slices.overlaps[learner/api.Trace]"], unfollowed := true, recurses := true, apart := false, narrowed := true }
def TreelearnRunsUptoSaid : Prop := treelearnRunsUptoRow.holds Tryz.pinned (OpenSpec.upto treelearnRunsSpec)

/-- 'learnerlaw27.TreelearnLearns', WHERE WHAT IT READS IS OF BULK AT MOST 1048576: true; the input reads as it did. -/
def treelearnLearnsUptoRow : OpenClaim := { program := "ytmnjchcoigbngabgreat", sum := "03dd0b5cad5639ea29a0ba68bf1607c545d6c6d9431eb0f63c1102f8b3e47da7", func := "learner/learnerlaw27.TreelearnLearns", spec := "treelearnLearns", inPlace := ["slices.overlaps[[]int]", "slices.overlaps[int]", "slices.overlaps[learner/api.Trace]"], unfollowed := true, recurses := true, apart := false, narrowed := true }
def TreelearnLearnsUptoSaid : Prop := treelearnLearnsUptoRow.holds Tryz.pinned (OpenSpec.upto treelearnLearnsSpec)

end Rows
end Go.Proofs.YtmnjchcoigbngabGreat
