/-
  No cell of these rows narrows 'for every input' (looked for: loops, veiled, ifaces, maps, wideKeys, modest, calm, conditions, laid).
  DERIVED. THE GIVEN ROWS OF THIS SEAT. 5 by the template 'for every input the law returns true; each argument reads behind the call as it read before'; 0 by the template 'total and deterministic' (their statements: YtmnnhjhkaepbaaaGreatTotals.lean).
  GIVEN WITH THE SEED: the statements are not yours to turn. If you find one false, say at which input.
  Laid BY PROGRAM, IN A SANDBOX (cutbox-rows.mjs): the forced cells as the released guide's own fill.sh prints them over the translation ff93eadce091defc… (all of the seat's roots in one cut). By AI agents, Wed Nov 11 2026. No macro, syntax, notation, axiom, sorry.
-/
import Derived.Test.YtmnnhjhkaepbaaaGreatChecked
import GoSem.Claim
import GoSem.ClaimJoined
import GoSem.ClaimMapViews
import Derived.JoinedTies
import Derived.KernelRfl
namespace Go.Proofs.YtmnnhjhkaepbaaaGreat
/- THE CELL 'sum', in the pinned program and in every row, IS THE sha256 OF THE DUMP (.gsa) THAT YtmnnhjhkaepbaaaGreatProg.lean LOADS. Nothing in Lean hashes anything: it is a label: what it is worth is what the hold of that sum in a sandbox is worth. -/
noncomputable def Tryz.pinned : Pinned := { name := "ytmnnhjhkaepbaaagreat", sum := "ff93eadce091defc2e5fedae378a3c193f6edd14aec20613e8c252059d620c91", checked := Tryz.checked }
namespace Rows
def none {H : Type} : Left H := { results := [], args := [] }

/-- 'learnerlaw51.GreyboxLifts': WHATEVER THE INPUT: true; the input reads as it did. -/
def greyboxLiftsSpec : ChangeSpec := { name := "greyboxLifts", fn := fun _ => fun
  | [d1, d2] => { results := [.lit (.bool true)], args := [d1, d2] }
  | _ => none }
def greyboxLiftsRow : OpenClaim := { program := "ytmnnhjhkaepbaaagreat", sum := "ff93eadce091defc2e5fedae378a3c193f6edd14aec20613e8c252059d620c91", func := "learner/learnerlaw51.GreyboxLifts", spec := "greyboxLifts", inPlace := ["slices.overlaps[[]int]", "slices.overlaps[int]", "slices.overlaps[learner/api.Trace]"], unfollowed := true, recurses := true, plainKeys := false, apart := false }
def GreyboxLiftsSaid : Prop := greyboxLiftsRow.holds Tryz.pinned (OpenSpec.ofChange greyboxLiftsSpec)

/-- ITS FALSE NEIGHBOUR: 'it returns false'. Refute it at one input. -/
def greyboxLiftsWrong : ChangeSpec := { name := "greyboxLifts", fn := fun _ => fun
  | [d1, d2] => { results := [.lit (.bool false)], args := [d1, d2] }
  | _ => none }
def GreyboxLiftsWrongFalsely : Prop := greyboxLiftsRow.holds Tryz.pinned (OpenSpec.ofChange greyboxLiftsWrong)

/-- 'learnerlaw51.GreyboxLearns': WHATEVER THE INPUT: true; the input reads as it did. -/
def greyboxLearnsSpec : ChangeSpec := { name := "greyboxLearns", fn := fun _ => fun
  | [d1, d2] => { results := [.lit (.bool true)], args := [d1, d2] }
  | _ => none }
def greyboxLearnsRow : OpenClaim := { program := "ytmnnhjhkaepbaaagreat", sum := "ff93eadce091defc2e5fedae378a3c193f6edd14aec20613e8c252059d620c91", func := "learner/learnerlaw51.GreyboxLearns", spec := "greyboxLearns", inPlace := ["slices.overlaps[[]int]", "slices.overlaps[int]", "slices.overlaps[learner/api.Trace]"], unfollowed := true, recurses := true, plainKeys := false, apart := false }
def GreyboxLearnsSaid : Prop := greyboxLearnsRow.holds Tryz.pinned (OpenSpec.ofChange greyboxLearnsSpec)

/-- ITS FALSE NEIGHBOUR: 'it returns false'. Refute it at one input. -/
def greyboxLearnsWrong : ChangeSpec := { name := "greyboxLearns", fn := fun _ => fun
  | [d1, d2] => { results := [.lit (.bool false)], args := [d1, d2] }
  | _ => none }
def GreyboxLearnsWrongFalsely : Prop := greyboxLearnsRow.holds Tryz.pinned (OpenSpec.ofChange greyboxLearnsWrong)

/-- 'learnerlaw51.GreyboxGroups': WHATEVER THE INPUT: true; the input reads as it did. -/
def greyboxGroupsSpec : ChangeSpec := { name := "greyboxGroups", fn := fun _ => fun
  | [d1, d2] => { results := [.lit (.bool true)], args := [d1, d2] }
  | _ => none }
def greyboxGroupsRow : OpenClaim := { program := "ytmnnhjhkaepbaaagreat", sum := "ff93eadce091defc2e5fedae378a3c193f6edd14aec20613e8c252059d620c91", func := "learner/learnerlaw51.GreyboxGroups", spec := "greyboxGroups", inPlace := ["slices.overlaps[[]int]", "slices.overlaps[int]", "slices.overlaps[learner/api.Trace]"], unfollowed := true, recurses := true, plainKeys := false, apart := false }
def GreyboxGroupsSaid : Prop := greyboxGroupsRow.holds Tryz.pinned (OpenSpec.ofChange greyboxGroupsSpec)

/-- ITS FALSE NEIGHBOUR: 'it returns false'. Refute it at one input. -/
def greyboxGroupsWrong : ChangeSpec := { name := "greyboxGroups", fn := fun _ => fun
  | [d1, d2] => { results := [.lit (.bool false)], args := [d1, d2] }
  | _ => none }
def GreyboxGroupsWrongFalsely : Prop := greyboxGroupsRow.holds Tryz.pinned (OpenSpec.ofChange greyboxGroupsWrong)

/-- 'learnerlaw51.GreyboxFactors': WHATEVER THE INPUT: true; the input reads as it did. -/
def greyboxFactorsSpec : ChangeSpec := { name := "greyboxFactors", fn := fun _ => fun
  | [d1, d2, d3] => { results := [.lit (.bool true)], args := [d1, d2, d3] }
  | _ => none }
def greyboxFactorsRow : OpenClaim := { program := "ytmnnhjhkaepbaaagreat", sum := "ff93eadce091defc2e5fedae378a3c193f6edd14aec20613e8c252059d620c91", func := "learner/learnerlaw51.GreyboxFactors", spec := "greyboxFactors", inPlace := ["slices.overlaps[[]int]", "slices.overlaps[int]", "slices.overlaps[learner/api.Trace]"], unfollowed := true, recurses := true, plainKeys := false, apart := false }
def GreyboxFactorsSaid : Prop := greyboxFactorsRow.holds Tryz.pinned (OpenSpec.ofChange greyboxFactorsSpec)

/-- ITS FALSE NEIGHBOUR: 'it returns false'. Refute it at one input. -/
def greyboxFactorsWrong : ChangeSpec := { name := "greyboxFactors", fn := fun _ => fun
  | [d1, d2, d3] => { results := [.lit (.bool false)], args := [d1, d2, d3] }
  | _ => none }
def GreyboxFactorsWrongFalsely : Prop := greyboxFactorsRow.holds Tryz.pinned (OpenSpec.ofChange greyboxFactorsWrong)

/-- 'learnerlaw51.GreyboxTags': WHATEVER THE INPUT: true; the input reads as it did. -/
def greyboxTagsSpec : ChangeSpec := { name := "greyboxTags", fn := fun _ => fun
  | [d1, d2] => { results := [.lit (.bool true)], args := [d1, d2] }
  | _ => none }
def greyboxTagsRow : OpenClaim := { program := "ytmnnhjhkaepbaaagreat", sum := "ff93eadce091defc2e5fedae378a3c193f6edd14aec20613e8c252059d620c91", func := "learner/learnerlaw51.GreyboxTags", spec := "greyboxTags", inPlace := ["slices.overlaps[[]int]", "slices.overlaps[int]", "slices.overlaps[learner/api.Trace]"], unfollowed := true, recurses := true, plainKeys := false, apart := false }
def GreyboxTagsSaid : Prop := greyboxTagsRow.holds Tryz.pinned (OpenSpec.ofChange greyboxTagsSpec)

/-- ITS FALSE NEIGHBOUR: 'it returns false'. Refute it at one input. -/
def greyboxTagsWrong : ChangeSpec := { name := "greyboxTags", fn := fun _ => fun
  | [d1, d2] => { results := [.lit (.bool false)], args := [d1, d2] }
  | _ => none }
def GreyboxTagsWrongFalsely : Prop := greyboxTagsRow.holds Tryz.pinned (OpenSpec.ofChange greyboxTagsWrong)

/- THE SECOND FORM. 'bulk': how many values and letters a reading holds, each counted each time it is reached (what is shared counts as often as it is met; a slice's spare places count too). A statement '..UptoSaid' is the law's where the arguments, and the package variables that the reading takes, are together of bulk at most 1048576: NARROWER than '..Said'. Prove '..Said' where nothing that the law and all that it calls make is longer than what came in: it says more and counts as full. Else prove '..UptoSaid'. A law counts once. -/
mutual
def uptoBulk {H : Type} : DataW H → Nat
  | .lit (.string bytes) => bytes.length + 1
  | .lit _ => 1
  | .nil => 1
  | .ptr d => uptoBulk d + 1
  | .slice elems spare => uptoBulkAll elems + uptoBulkAll spare + 1
  | .agg parts => uptoBulkAll parts + 1
  | .iface _ d => uptoBulk d + 1
  | .map entries => uptoBulkEntries entries + 1
  | .held _ => 1
def uptoBulkAll {H : Type} : List (DataW H) → Nat
  | [] => 0
  | d :: r => uptoBulk d + uptoBulkAll r
def uptoBulkEntries {H : Type} : List (Lit × DataW H) → Nat
  | [] => 0
  | x :: r => uptoBulkEntry x + uptoBulkEntries r
def uptoBulkEntry {H : Type} : Lit × DataW H → Nat
  | (.string bytes, d) => bytes.length + uptoBulk d + 1
  | (_, d) => uptoBulk d + 1
 end
def uptoSmall : (H : Type) → List (DataW H) → Bool := fun _ ds => decide (uptoBulkAll ds ≤ 1048576)
def OpenSpec.upto (s : _root_.Go.ChangeSpec) : _root_.Go.OpenSpec := { _root_.Go.OpenSpec.ofChange s with cond := some uptoSmall }

/-- 'learnerlaw51.GreyboxLifts', WHERE WHAT IT READS IS OF BULK AT MOST 1048576: true; the input reads as it did. -/
def greyboxLiftsUptoRow : OpenClaim := { program := "ytmnnhjhkaepbaaagreat", sum := "ff93eadce091defc2e5fedae378a3c193f6edd14aec20613e8c252059d620c91", func := "learner/learnerlaw51.GreyboxLifts", spec := "greyboxLifts", inPlace := ["slices.overlaps[[]int]", "slices.overlaps[int]", "slices.overlaps[learner/api.Trace]"], unfollowed := true, recurses := true, plainKeys := false, apart := false, narrowed := true }
def GreyboxLiftsUptoSaid : Prop := greyboxLiftsUptoRow.holds Tryz.pinned (OpenSpec.upto greyboxLiftsSpec)

/-- 'learnerlaw51.GreyboxLearns', WHERE WHAT IT READS IS OF BULK AT MOST 1048576: true; the input reads as it did. -/
def greyboxLearnsUptoRow : OpenClaim := { program := "ytmnnhjhkaepbaaagreat", sum := "ff93eadce091defc2e5fedae378a3c193f6edd14aec20613e8c252059d620c91", func := "learner/learnerlaw51.GreyboxLearns", spec := "greyboxLearns", inPlace := ["slices.overlaps[[]int]", "slices.overlaps[int]", "slices.overlaps[learner/api.Trace]"], unfollowed := true, recurses := true, plainKeys := false, apart := false, narrowed := true }
def GreyboxLearnsUptoSaid : Prop := greyboxLearnsUptoRow.holds Tryz.pinned (OpenSpec.upto greyboxLearnsSpec)

/-- 'learnerlaw51.GreyboxGroups', WHERE WHAT IT READS IS OF BULK AT MOST 1048576: true; the input reads as it did. -/
def greyboxGroupsUptoRow : OpenClaim := { program := "ytmnnhjhkaepbaaagreat", sum := "ff93eadce091defc2e5fedae378a3c193f6edd14aec20613e8c252059d620c91", func := "learner/learnerlaw51.GreyboxGroups", spec := "greyboxGroups", inPlace := ["slices.overlaps[[]int]", "slices.overlaps[int]", "slices.overlaps[learner/api.Trace]"], unfollowed := true, recurses := true, plainKeys := false, apart := false, narrowed := true }
def GreyboxGroupsUptoSaid : Prop := greyboxGroupsUptoRow.holds Tryz.pinned (OpenSpec.upto greyboxGroupsSpec)

/-- 'learnerlaw51.GreyboxFactors', WHERE WHAT IT READS IS OF BULK AT MOST 1048576: true; the input reads as it did. -/
def greyboxFactorsUptoRow : OpenClaim := { program := "ytmnnhjhkaepbaaagreat", sum := "ff93eadce091defc2e5fedae378a3c193f6edd14aec20613e8c252059d620c91", func := "learner/learnerlaw51.GreyboxFactors", spec := "greyboxFactors", inPlace := ["slices.overlaps[[]int]", "slices.overlaps[int]", "slices.overlaps[learner/api.Trace]"], unfollowed := true, recurses := true, plainKeys := false, apart := false, narrowed := true }
def GreyboxFactorsUptoSaid : Prop := greyboxFactorsUptoRow.holds Tryz.pinned (OpenSpec.upto greyboxFactorsSpec)

/-- 'learnerlaw51.GreyboxTags', WHERE WHAT IT READS IS OF BULK AT MOST 1048576: true; the input reads as it did. -/
def greyboxTagsUptoRow : OpenClaim := { program := "ytmnnhjhkaepbaaagreat", sum := "ff93eadce091defc2e5fedae378a3c193f6edd14aec20613e8c252059d620c91", func := "learner/learnerlaw51.GreyboxTags", spec := "greyboxTags", inPlace := ["slices.overlaps[[]int]", "slices.overlaps[int]", "slices.overlaps[learner/api.Trace]"], unfollowed := true, recurses := true, plainKeys := false, apart := false, narrowed := true }
def GreyboxTagsUptoSaid : Prop := greyboxTagsUptoRow.holds Tryz.pinned (OpenSpec.upto greyboxTagsSpec)

end Rows
end Go.Proofs.YtmnnhjhkaepbaaaGreat
