/-
  No cell of these rows narrows 'for every input' (looked for: loops, veiled, ifaces, maps, wideKeys, modest, calm, conditions, laid).
  DERIVED. THE GIVEN ROWS OF THIS SEAT. 2 by the template 'for every input the law returns true; each argument reads behind the call as it read before'; 0 by the template 'total and deterministic' (their statements: YtinpihlhcmpkhaaGreatTotals.lean).
  GIVEN WITH THE SEED: the statements are not yours to turn. If you find one false, say at which input.
  Laid BY PROGRAM, IN A SANDBOX (cutbox-rows.mjs): the forced cells as the released guide's own fill.sh prints them over the translation 72bed182824fee6f… (all of the seat's roots in one cut). By AI agents, Wed Nov 11 2026. No macro, syntax, notation, axiom, sorry.
-/
import Derived.Test.YtinpihlhcmpkhaaGreatChecked
import GoSem.Claim
import GoSem.ClaimJoined
import GoSem.ClaimMapViews
import Derived.JoinedTies
import Derived.KernelRfl
namespace Go.Proofs.YtinpihlhcmpkhaaGreat
/- THE CELL 'sum', in the pinned program and in every row, IS THE sha256 OF THE DUMP (.gsa) THAT YtinpihlhcmpkhaaGreatProg.lean LOADS. Nothing in Lean hashes anything: it is a label: what it is worth is what the hold of that sum in a sandbox is worth. -/
noncomputable def Tryz.pinned : Pinned := { name := "ytinpihlhcmpkhaagreat", sum := "72bed182824fee6f2e016115ff97687f0dae1026d8adf73a7808d2b5142239f0", checked := Tryz.checked }
namespace Rows
def none {H : Type} : Left H := { results := [], args := [] }

/-- 'learnerlaw27.TreelearnRuns': WHATEVER THE INPUT: true; the input reads as it did. -/
def treelearnRunsSpec : ChangeSpec := { name := "treelearnRuns", fn := fun _ => fun
  | [d] => { results := [.lit (.bool true)], args := [d] }
  | _ => none }
def treelearnRunsRow : OpenClaim := { program := "ytinpihlhcmpkhaagreat", sum := "72bed182824fee6f2e016115ff97687f0dae1026d8adf73a7808d2b5142239f0", func := "learner/learnerlaw27.TreelearnRuns", spec := "treelearnRuns", inPlace := ["slices.overlaps[[]int]", "slices.overlaps[int]", "slices.overlaps[learner/api.Trace]"], unfollowed := true, recurses := true, apart := false }
def TreelearnRunsSaid : Prop := treelearnRunsRow.holds Tryz.pinned (OpenSpec.ofChange treelearnRunsSpec)

/-- ITS FALSE NEIGHBOUR: 'it returns false'. Refute it at one input. -/
def treelearnRunsWrong : ChangeSpec := { name := "treelearnRuns", fn := fun _ => fun
  | [d] => { results := [.lit (.bool false)], args := [d] }
  | _ => none }
def TreelearnRunsWrongFalsely : Prop := treelearnRunsRow.holds Tryz.pinned (OpenSpec.ofChange treelearnRunsWrong)

/-- 'learnerlaw27.TreelearnLearns': WHATEVER THE INPUT: true; the input reads as it did. -/
def treelearnLearnsSpec : ChangeSpec := { name := "treelearnLearns", fn := fun _ => fun
  | [d] => { results := [.lit (.bool true)], args := [d] }
  | _ => none }
def treelearnLearnsRow : OpenClaim := { program := "ytinpihlhcmpkhaagreat", sum := "72bed182824fee6f2e016115ff97687f0dae1026d8adf73a7808d2b5142239f0", func := "learner/learnerlaw27.TreelearnLearns", spec := "treelearnLearns", inPlace := ["slices.overlaps[[]int]", "slices.overlaps[int]", "slices.overlaps[learner/api.Trace]"], unfollowed := true, recurses := true, apart := false }
def TreelearnLearnsSaid : Prop := treelearnLearnsRow.holds Tryz.pinned (OpenSpec.ofChange treelearnLearnsSpec)

/-- ITS FALSE NEIGHBOUR: 'it returns false'. Refute it at one input. -/
def treelearnLearnsWrong : ChangeSpec := { name := "treelearnLearns", fn := fun _ => fun
  | [d] => { results := [.lit (.bool false)], args := [d] }
  | _ => none }
def TreelearnLearnsWrongFalsely : Prop := treelearnLearnsRow.holds Tryz.pinned (OpenSpec.ofChange treelearnLearnsWrong)

/- THE SECOND FORM. 'bulk': how many values and letters a reading holds, each counted each time it is reached (what is shared counts as often as it is met; a slice's spare places count too). A statement '..UptoSaid' is the law's where the arguments, and the package variables that the reading takes, are together of bulk at most 1048576: NARROWER than '..Said'. Prove '..Said' where nothing that the law and all that it calls make is longer than what came in: it says more and counts as full. Else prove '..UptoSaid'. A law counts once. -/
mutual
def uptoBulk {H : Type} : DataW H → Nat
  | .lit (.string bytes) => bytes.length + 1
  | .lit _ => 1
  | .nil => 1
  | .ptr d => uptoBulk d + 1
  | .slice elems spare => uptoBulkAll elems + uptoBulkAll spare + 1
  | .agg parts => uptoBulkAll parts + 1
  | .iface _ d => uptoBulk d + 1
  | .map entries => uptoBulkEntries entries + 1
  | .held _ => 1
def uptoBulkAll {H : Type} : List (DataW H) → Nat
  | [] => 0
  | d :: r => uptoBulk d + uptoBulkAll r
def uptoBulkEntries {H : Type} : List (Lit × DataW H) → Nat
  | [] => 0
  | x :: r => uptoBulkEntry x + uptoBulkEntries r
def uptoBulkEntry {H : Type} : Lit × DataW H → Nat
  | (.string bytes, d) => bytes.length + uptoBulk d + 1
  | (_, d) => uptoBulk d + 1
 end
def uptoSmall : (H : Type) → List (DataW H) → Bool := fun _ ds => decide (uptoBulkAll ds ≤ 1048576)
def OpenSpec.upto (s : _root_.Go.ChangeSpec) : _root_.Go.OpenSpec := { _root_.Go.OpenSpec.ofChange s with cond := some uptoSmall }

/-- 'learnerlaw27.TreelearnRuns', WHERE WHAT IT READS IS OF BULK AT MOST 1048576: true; the input reads as it did. -/
def treelearnRunsUptoRow : OpenClaim := { program := "ytinpihlhcmpkhaagreat", sum := "72bed182824fee6f2e016115ff97687f0dae1026d8adf73a7808d2b5142239f0", func := "learner/learnerlaw27.TreelearnRuns", spec := "treelearnRuns", inPlace := ["slices.overlaps[[]int]", "slices.overlaps[int]", "slices.overlaps[learner/api.Trace]"], unfollowed := true, recurses := true, apart := false, narrowed := true }
def TreelearnRunsUptoSaid : Prop := treelearnRunsUptoRow.holds Tryz.pinned (OpenSpec.upto treelearnRunsSpec)

/-- 'learnerlaw27.TreelearnLearns', WHERE WHAT IT READS IS OF BULK AT MOST 1048576: true; the input reads as it did. -/
def treelearnLearnsUptoRow : OpenClaim := { program := "ytinpihlhcmpkhaagreat", sum := "72bed182824fee6f2e016115ff97687f0dae1026d8adf73a7808d2b5142239f0", func := "learner/learnerlaw27.TreelearnLearns", spec := "treelearnLearns", inPlace := ["slices.overlaps[[]int]", "slices.overlaps[int]", "slices.overlaps[learner/api.Trace]"], unfollowed := true, recurses := true, apart := false, narrowed := true }
def TreelearnLearnsUptoSaid : Prop := treelearnLearnsUptoRow.holds Tryz.pinned (OpenSpec.upto treelearnLearnsSpec)

end Rows
end Go.Proofs.YtinpihlhcmpkhaaGreat
