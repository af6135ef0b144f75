/-
  No cell of these rows narrows 'for every input' (looked for: loops, veiled, ifaces, maps, wideKeys, modest, calm, conditions, laid).
  DERIVED. THE GIVEN ROWS OF THIS SEAT. 6 by the template 'for every input the law returns true; each argument reads behind the call as it read before'; 0 by the template 'total and deterministic' (their statements: YtmnjchcoigbngaaGreatTotals.lean).
  GIVEN WITH THE SEED: the statements are not yours to turn. If you find one false, say at which input.
  Laid BY PROGRAM, IN A SANDBOX (cutbox-rows.mjs): the forced cells as the released guide's own fill.sh prints them over the translation 6cd505ec465246e3… (all of the seat's roots in one cut). By AI agents, Wed Nov 11 2026. No macro, syntax, notation, axiom, sorry.
-/
import Derived.Test.YtmnjchcoigbngaaGreatChecked
import GoSem.Claim
import GoSem.ClaimJoined
import GoSem.ClaimMapViews
import Derived.JoinedTies
import Derived.KernelRfl
namespace Go.Proofs.YtmnjchcoigbngaaGreat
/- THE CELL 'sum', in the pinned program and in every row, IS THE sha256 OF THE DUMP (.gsa) THAT YtmnjchcoigbngaaGreatProg.lean LOADS. Nothing in Lean hashes anything: it is a label: what it is worth is what the hold of that sum in a sandbox is worth. -/
noncomputable def Tryz.pinned : Pinned := { name := "ytmnjchcoigbngaagreat", sum := "6cd505ec465246e317c5490b654e7d219fdd347ba8dea62d8ea29dfd3ea04773", checked := Tryz.checked }
namespace Rows
def none {H : Type} : Left H := { results := [], args := [] }

/-- 'learnerlaw26.DtreeValid': WHATEVER THE INPUT: true; the input reads as it did. -/
def dtreeValidSpec : ChangeSpec := { name := "dtreeValid", fn := fun _ => fun
  | [d] => { results := [.lit (.bool true)], args := [d] }
  | _ => none }
def dtreeValidRow : OpenClaim := { program := "ytmnjchcoigbngaagreat", sum := "6cd505ec465246e317c5490b654e7d219fdd347ba8dea62d8ea29dfd3ea04773", func := "learner/learnerlaw26.DtreeValid", spec := "dtreeValid", inPlace := ["slices.overlaps[[]int]", "slices.overlaps[int]"], unfollowed := true, recurses := true, apart := false }
def DtreeValidSaid : Prop := dtreeValidRow.holds Tryz.pinned (OpenSpec.ofChange dtreeValidSpec)

/-- ITS FALSE NEIGHBOUR: 'it returns false'. Refute it at one input. -/
def dtreeValidWrong : ChangeSpec := { name := "dtreeValid", fn := fun _ => fun
  | [d] => { results := [.lit (.bool false)], args := [d] }
  | _ => none }
def DtreeValidWrongFalsely : Prop := dtreeValidRow.holds Tryz.pinned (OpenSpec.ofChange dtreeValidWrong)

/-- 'learnerlaw26.DtreeSifts': WHATEVER THE INPUT: true; the input reads as it did. -/
def dtreeSiftsSpec : ChangeSpec := { name := "dtreeSifts", fn := fun _ => fun
  | [d1, d2, d3] => { results := [.lit (.bool true)], args := [d1, d2, d3] }
  | _ => none }
def dtreeSiftsRow : OpenClaim := { program := "ytmnjchcoigbngaagreat", sum := "6cd505ec465246e317c5490b654e7d219fdd347ba8dea62d8ea29dfd3ea04773", func := "learner/learnerlaw26.DtreeSifts", spec := "dtreeSifts", inPlace := ["slices.overlaps[[]int]", "slices.overlaps[int]"], unfollowed := true, recurses := true, apart := false }
def DtreeSiftsSaid : Prop := dtreeSiftsRow.holds Tryz.pinned (OpenSpec.ofChange dtreeSiftsSpec)

/-- ITS FALSE NEIGHBOUR: 'it returns false'. Refute it at one input. -/
def dtreeSiftsWrong : ChangeSpec := { name := "dtreeSifts", fn := fun _ => fun
  | [d1, d2, d3] => { results := [.lit (.bool false)], args := [d1, d2, d3] }
  | _ => none }
def DtreeSiftsWrongFalsely : Prop := dtreeSiftsRow.holds Tryz.pinned (OpenSpec.ofChange dtreeSiftsWrong)

/-- 'learnerlaw26.DtreeGrows': WHATEVER THE INPUT: true; the input reads as it did. -/
def dtreeGrowsSpec : ChangeSpec := { name := "dtreeGrows", fn := fun _ => fun
  | [d1, d2, d3] => { results := [.lit (.bool true)], args := [d1, d2, d3] }
  | _ => none }
def dtreeGrowsRow : OpenClaim := { program := "ytmnjchcoigbngaagreat", sum := "6cd505ec465246e317c5490b654e7d219fdd347ba8dea62d8ea29dfd3ea04773", func := "learner/learnerlaw26.DtreeGrows", spec := "dtreeGrows", inPlace := ["slices.overlaps[[]int]", "slices.overlaps[int]"], unfollowed := true, recurses := true, apart := false }
def DtreeGrowsSaid : Prop := dtreeGrowsRow.holds Tryz.pinned (OpenSpec.ofChange dtreeGrowsSpec)

/-- ITS FALSE NEIGHBOUR: 'it returns false'. Refute it at one input. -/
def dtreeGrowsWrong : ChangeSpec := { name := "dtreeGrows", fn := fun _ => fun
  | [d1, d2, d3] => { results := [.lit (.bool false)], args := [d1, d2, d3] }
  | _ => none }
def DtreeGrowsWrongFalsely : Prop := dtreeGrowsRow.holds Tryz.pinned (OpenSpec.ofChange dtreeGrowsWrong)

/-- 'learnerlaw26.DtreeSplits': WHATEVER THE INPUT: true; the input reads as it did. -/
def dtreeSplitsSpec : ChangeSpec := { name := "dtreeSplits", fn := fun _ => fun
  | [d1, d2] => { results := [.lit (.bool true)], args := [d1, d2] }
  | _ => none }
def dtreeSplitsRow : OpenClaim := { program := "ytmnjchcoigbngaagreat", sum := "6cd505ec465246e317c5490b654e7d219fdd347ba8dea62d8ea29dfd3ea04773", func := "learner/learnerlaw26.DtreeSplits", spec := "dtreeSplits", inPlace := ["slices.overlaps[[]int]", "slices.overlaps[int]"], unfollowed := true, recurses := true, apart := false }
def DtreeSplitsSaid : Prop := dtreeSplitsRow.holds Tryz.pinned (OpenSpec.ofChange dtreeSplitsSpec)

/-- ITS FALSE NEIGHBOUR: 'it returns false'. Refute it at one input. -/
def dtreeSplitsWrong : ChangeSpec := { name := "dtreeSplits", fn := fun _ => fun
  | [d1, d2] => { results := [.lit (.bool false)], args := [d1, d2] }
  | _ => none }
def DtreeSplitsWrongFalsely : Prop := dtreeSplitsRow.holds Tryz.pinned (OpenSpec.ofChange dtreeSplitsWrong)

/-- 'learnerlaw26.DtreeCommon': WHATEVER THE INPUT: true; the input reads as it did. -/
def dtreeCommonSpec : ChangeSpec := { name := "dtreeCommon", fn := fun _ => fun
  | [d1, d2, d3] => { results := [.lit (.bool true)], args := [d1, d2, d3] }
  | _ => none }
def dtreeCommonRow : OpenClaim := { program := "ytmnjchcoigbngaagreat", sum := "6cd505ec465246e317c5490b654e7d219fdd347ba8dea62d8ea29dfd3ea04773", func := "learner/learnerlaw26.DtreeCommon", spec := "dtreeCommon", inPlace := ["slices.overlaps[[]int]", "slices.overlaps[int]"], unfollowed := true, recurses := true, apart := false }
def DtreeCommonSaid : Prop := dtreeCommonRow.holds Tryz.pinned (OpenSpec.ofChange dtreeCommonSpec)

/-- ITS FALSE NEIGHBOUR: 'it returns false'. Refute it at one input. -/
def dtreeCommonWrong : ChangeSpec := { name := "dtreeCommon", fn := fun _ => fun
  | [d1, d2, d3] => { results := [.lit (.bool false)], args := [d1, d2, d3] }
  | _ => none }
def DtreeCommonWrongFalsely : Prop := dtreeCommonRow.holds Tryz.pinned (OpenSpec.ofChange dtreeCommonWrong)

/-- 'learnerlaw26.DtreeParts': WHATEVER THE INPUT: true; the input reads as it did. -/
def dtreePartsSpec : ChangeSpec := { name := "dtreeParts", fn := fun _ => fun
  | [d1, d2, d3] => { results := [.lit (.bool true)], args := [d1, d2, d3] }
  | _ => none }
def dtreePartsRow : OpenClaim := { program := "ytmnjchcoigbngaagreat", sum := "6cd505ec465246e317c5490b654e7d219fdd347ba8dea62d8ea29dfd3ea04773", func := "learner/learnerlaw26.DtreeParts", spec := "dtreeParts", inPlace := ["slices.overlaps[[]int]", "slices.overlaps[int]"], unfollowed := true, recurses := true, apart := false }
def DtreePartsSaid : Prop := dtreePartsRow.holds Tryz.pinned (OpenSpec.ofChange dtreePartsSpec)

/-- ITS FALSE NEIGHBOUR: 'it returns false'. Refute it at one input. -/
def dtreePartsWrong : ChangeSpec := { name := "dtreeParts", fn := fun _ => fun
  | [d1, d2, d3] => { results := [.lit (.bool false)], args := [d1, d2, d3] }
  | _ => none }
def DtreePartsWrongFalsely : Prop := dtreePartsRow.holds Tryz.pinned (OpenSpec.ofChange dtreePartsWrong)

/- THE SECOND FORM. 'bulk': how many values and letters a reading holds, each counted each time it is reached (what is shared counts as often as it is met; a slice's spare places count too). A statement '..UptoSaid' is the law's where the arguments, and the package variables that the reading takes, are together of bulk at most 1048576: NARROWER than '..Said'. Prove '..Said' where nothing that the law and all that it calls make is longer than what came in: it says more and counts as full. Else prove '..UptoSaid'. A law counts once. -/
mutual
def uptoBulk {H : Type} : DataW H → Nat
  | .lit (.string bytes) => bytes.length + 1
  | .lit _ => 1
  | .nil => 1
  | .ptr d => uptoBulk d + 1
  | .slice elems spare => uptoBulkAll elems + uptoBulkAll spare + 1
  | .agg parts => uptoBulkAll parts + 1
  | .iface _ d => uptoBulk d + 1
  | .map entries => uptoBulkEntries entries + 1
  | .held _ => 1
def uptoBulkAll {H : Type} : List (DataW H) → Nat
  | [] => 0
  | d :: r => uptoBulk d + uptoBulkAll r
def uptoBulkEntries {H : Type} : List (Lit × DataW H) → Nat
  | [] => 0
  | x :: r => uptoBulkEntry x + uptoBulkEntries r
def uptoBulkEntry {H : Type} : Lit × DataW H → Nat
  | (.string bytes, d) => bytes.length + uptoBulk d + 1
  | (_, d) => uptoBulk d + 1
 end
def uptoSmall : (H : Type) → List (DataW H) → Bool := fun _ ds => decide (uptoBulkAll ds ≤ 1048576)
def OpenSpec.upto (s : _root_.Go.ChangeSpec) : _root_.Go.OpenSpec := { _root_.Go.OpenSpec.ofChange s with cond := some uptoSmall }

/-- 'learnerlaw26.DtreeValid', WHERE WHAT IT READS IS OF BULK AT MOST 1048576: true; the input reads as it did. -/
def dtreeValidUptoRow : OpenClaim := { program := "ytmnjchcoigbngaagreat", sum := "6cd505ec465246e317c5490b654e7d219fdd347ba8dea62d8ea29dfd3ea04773", func := "learner/learnerlaw26.DtreeValid", spec := "dtreeValid", inPlace := ["slices.overlaps[[]int]", "slices.overlaps[int]"], unfollowed := true, recurses := true, apart := false, narrowed := true }
def DtreeValidUptoSaid : Prop := dtreeValidUptoRow.holds Tryz.pinned (OpenSpec.upto dtreeValidSpec)

/-- 'learnerlaw26.DtreeSifts', WHERE WHAT IT READS IS OF BULK AT MOST 1048576: true; the input reads as it did. -/
def dtreeSiftsUptoRow : OpenClaim := { program := "ytmnjchcoigbngaagreat", sum := "6cd505ec465246e317c5490b654e7d219fdd347ba8dea62d8ea29dfd3ea04773", func := "learner/learnerlaw26.DtreeSifts", spec := "dtreeSifts", inPlace := ["slices.overlaps[[]int]", "slices.overlaps[int]"], unfollowed := true, recurses := true, apart := false, narrowed := true }
def DtreeSiftsUptoSaid : Prop := dtreeSiftsUptoRow.holds Tryz.pinned (OpenSpec.upto dtreeSiftsSpec)

/-- 'learnerlaw26.DtreeGrows', WHERE WHAT IT READS IS OF BULK AT MOST 1048576: true; the input reads as it did. -/
def dtreeGrowsUptoRow : OpenClaim := { program := "ytmnjchcoigbngaagreat", sum := "6cd505ec465246e317c5490b654e7d219fdd347ba8dea62d8ea29dfd3ea04773", func := "learner/learnerlaw26.DtreeGrows", spec := "dtreeGrows", inPlace := ["slices.overlaps[[]int]", "slices.overlaps[int]"], unfollowed := true, recurses := true, apart := false, narrowed := true }
def DtreeGrowsUptoSaid : Prop := dtreeGrowsUptoRow.holds Tryz.pinned (OpenSpec.upto dtreeGrowsSpec)

/-- 'learnerlaw26.DtreeSplits', WHERE WHAT IT READS IS OF BULK AT MOST 1048576: true; the input reads as it did. -/
def dtreeSplitsUptoRow : OpenClaim := { program := "ytmnjchcoigbngaagreat", sum := "6cd505ec465246e317c5490b654e7d219fdd347ba8dea62d8ea29dfd3ea04773", func := "learner/learnerlaw26.DtreeSplits", spec := "dtreeSplits", inPlace := ["slices.overlaps[[]int]", "slices.overlaps[int]"], unfollowed := true, recurses := true, apart := false, narrowed := true }
def DtreeSplitsUptoSaid : Prop := dtreeSplitsUptoRow.holds Tryz.pinned (OpenSpec.upto dtreeSplitsSpec)

/-- 'learnerlaw26.DtreeCommon', WHERE WHAT IT READS IS OF BULK AT MOST 1048576: true; the input reads as it did. -/
def dtreeCommonUptoRow : OpenClaim := { program := "ytmnjchcoigbngaagreat", sum := "6cd505ec465246e317c5490b654e7d219fdd347ba8dea62d8ea29dfd3ea04773", func := "learner/learnerlaw26.DtreeCommon", spec := "dtreeCommon", inPlace := ["slices.overlaps[[]int]", "slices.overlaps[int]"], unfollowed := true, recurses := true, apart := false, narrowed := true }
def DtreeCommonUptoSaid : Prop := dtreeCommonUptoRow.holds Tryz.pinned (OpenSpec.upto dtreeCommonSpec)

/-- 'learnerlaw26.DtreeParts', WHERE WHAT IT READS IS OF BULK AT MOST 1048576: true; the input reads as it did. -/
def dtreePartsUptoRow : OpenClaim := { program := "ytmnjchcoigbngaagreat", sum := "6cd505ec465246e317c5490b654e7d219fdd347ba8dea62d8ea29dfd3ea04773", func := "learner/learnerlaw26.DtreeParts", spec := "dtreeParts", inPlace := ["slices.overlaps[[]int]", "slices.overlaps[int]"], unfollowed := true, recurses := true, apart := false, narrowed := true }
def DtreePartsUptoSaid : Prop := dtreePartsUptoRow.holds Tryz.pinned (OpenSpec.upto dtreePartsSpec)

end Rows
end Go.Proofs.YtmnjchcoigbngaaGreat
