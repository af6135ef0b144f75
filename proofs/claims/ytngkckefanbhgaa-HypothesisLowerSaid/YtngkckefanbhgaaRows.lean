/-
  No cell of these rows narrows 'for every input' (looked for: loops, veiled, ifaces, maps, wideKeys, modest, calm, conditions, laid).
  DERIVED. THE GIVEN ROWS OF THIS SEAT. 12 by the template 'for every input the law returns true; each argument reads behind the call as it read before'; 0 by the template 'total and deterministic' (their statements: YtngkckefanbhgaaTotals.lean).
  GIVEN WITH THE SEED: the statements are not yours to turn. If you find one false, say at which input.
  Laid BY PROGRAM, IN A SANDBOX (cutbox-rows.mjs): the forced cells as the released guide's own fill.sh prints them over the translation 0f646a16c6a338fc… (all of the seat's roots in one cut). By AI agents, Wed Nov 11 2026. No macro, syntax, notation, axiom, sorry.
-/
import Derived.Test.YtngkckefanbhgaaChecked
import GoSem.Claim
import GoSem.ClaimJoined
import GoSem.ClaimMapViews
import Derived.JoinedTies
import Derived.KernelRfl
namespace Go.Proofs.Ytngkckefanbhgaa
/- THE CELL 'sum', in the pinned program and in every row, IS THE sha256 OF THE DUMP (.gsa) THAT YtngkckefanbhgaaProg.lean LOADS. Nothing in Lean hashes anything: it is a label: what it is worth is what the hold of that sum in a sandbox is worth. -/
noncomputable def Try.pinned : Pinned := { name := "ytngkckefanbhgaa", sum := "0f646a16c6a338fca9dca5829a6d5380560303283a487cc8cb0fbc94da385489", checked := Try.checked }
namespace Rows
def none {H : Type} : Left H := { results := [], args := [] }

/-- 'learnerlaw22.HypothesisValid': WHATEVER THE INPUT: true; the input reads as it did. -/
def hypothesisValidSpec : ChangeSpec := { name := "hypothesisValid", fn := fun _ => fun
  | [d] => { results := [.lit (.bool true)], args := [d] }
  | _ => none }
def hypothesisValidRow : OpenClaim := { program := "ytngkckefanbhgaa", sum := "0f646a16c6a338fca9dca5829a6d5380560303283a487cc8cb0fbc94da385489", func := "learner/learnerlaw22.HypothesisValid", spec := "hypothesisValid", unfollowed := true, recurses := true, apart := false }
def HypothesisValidSaid : Prop := hypothesisValidRow.holds Try.pinned (OpenSpec.ofChange hypothesisValidSpec)

/-- ITS FALSE NEIGHBOUR: 'it returns false'. Refute it at one input. -/
def hypothesisValidWrong : ChangeSpec := { name := "hypothesisValid", fn := fun _ => fun
  | [d] => { results := [.lit (.bool false)], args := [d] }
  | _ => none }
def HypothesisValidWrongFalsely : Prop := hypothesisValidRow.holds Try.pinned (OpenSpec.ofChange hypothesisValidWrong)

/-- 'learnerlaw22.HypothesisRefuted': WHATEVER THE INPUT: true; the input reads as it did. -/
def hypothesisRefutedSpec : ChangeSpec := { name := "hypothesisRefuted", fn := fun _ => fun
  | [d1, d2, d3] => { results := [.lit (.bool true)], args := [d1, d2, d3] }
  | _ => none }
def hypothesisRefutedRow : OpenClaim := { program := "ytngkckefanbhgaa", sum := "0f646a16c6a338fca9dca5829a6d5380560303283a487cc8cb0fbc94da385489", func := "learner/learnerlaw22.HypothesisRefuted", spec := "hypothesisRefuted", unfollowed := true, recurses := true, apart := false }
def HypothesisRefutedSaid : Prop := hypothesisRefutedRow.holds Try.pinned (OpenSpec.ofChange hypothesisRefutedSpec)

/-- ITS FALSE NEIGHBOUR: 'it returns false'. Refute it at one input. -/
def hypothesisRefutedWrong : ChangeSpec := { name := "hypothesisRefuted", fn := fun _ => fun
  | [d1, d2, d3] => { results := [.lit (.bool false)], args := [d1, d2, d3] }
  | _ => none }
def HypothesisRefutedWrongFalsely : Prop := hypothesisRefutedRow.holds Try.pinned (OpenSpec.ofChange hypothesisRefutedWrong)

/-- 'learnerlaw22.HypothesisApart': WHATEVER THE INPUT: true; the input reads as it did. -/
def hypothesisApartSpec : ChangeSpec := { name := "hypothesisApart", fn := fun _ => fun
  | [d1, d2] => { results := [.lit (.bool true)], args := [d1, d2] }
  | _ => none }
def hypothesisApartRow : OpenClaim := { program := "ytngkckefanbhgaa", sum := "0f646a16c6a338fca9dca5829a6d5380560303283a487cc8cb0fbc94da385489", func := "learner/learnerlaw22.HypothesisApart", spec := "hypothesisApart", unfollowed := true, recurses := true, apart := false }
def HypothesisApartSaid : Prop := hypothesisApartRow.holds Try.pinned (OpenSpec.ofChange hypothesisApartSpec)

/-- ITS FALSE NEIGHBOUR: 'it returns false'. Refute it at one input. -/
def hypothesisApartWrong : ChangeSpec := { name := "hypothesisApart", fn := fun _ => fun
  | [d1, d2] => { results := [.lit (.bool false)], args := [d1, d2] }
  | _ => none }
def HypothesisApartWrongFalsely : Prop := hypothesisApartRow.holds Try.pinned (OpenSpec.ofChange hypothesisApartWrong)

/-- 'learnerlaw22.HypothesisLower': WHATEVER THE INPUT: true; the input reads as it did. -/
def hypothesisLowerSpec : ChangeSpec := { name := "hypothesisLower", fn := fun _ => fun
  | [d1, d2, d3] => { results := [.lit (.bool true)], args := [d1, d2, d3] }
  | _ => none }
def hypothesisLowerRow : OpenClaim := { program := "ytngkckefanbhgaa", sum := "0f646a16c6a338fca9dca5829a6d5380560303283a487cc8cb0fbc94da385489", func := "learner/learnerlaw22.HypothesisLower", spec := "hypothesisLower", inPlace := ["slices.overlaps[learner/api.Trace]"], unfollowed := true, recurses := true, apart := false }
def HypothesisLowerSaid : Prop := hypothesisLowerRow.holds Try.pinned (OpenSpec.ofChange hypothesisLowerSpec)

/-- ITS FALSE NEIGHBOUR: 'it returns false'. Refute it at one input. -/
def hypothesisLowerWrong : ChangeSpec := { name := "hypothesisLower", fn := fun _ => fun
  | [d1, d2, d3] => { results := [.lit (.bool false)], args := [d1, d2, d3] }
  | _ => none }
def HypothesisLowerWrongFalsely : Prop := hypothesisLowerRow.holds Try.pinned (OpenSpec.ofChange hypothesisLowerWrong)

/-- 'learnerlaw22.HypothesisCounter': WHATEVER THE INPUT: true; the input reads as it did. -/
def hypothesisCounterSpec : ChangeSpec := { name := "hypothesisCounter", fn := fun _ => fun
  | [d1, d2] => { results := [.lit (.bool true)], args := [d1, d2] }
  | _ => none }
def hypothesisCounterRow : OpenClaim := { program := "ytngkckefanbhgaa", sum := "0f646a16c6a338fca9dca5829a6d5380560303283a487cc8cb0fbc94da385489", func := "learner/learnerlaw22.HypothesisCounter", spec := "hypothesisCounter", unfollowed := true, recurses := true, apart := false }
def HypothesisCounterSaid : Prop := hypothesisCounterRow.holds Try.pinned (OpenSpec.ofChange hypothesisCounterSpec)

/-- ITS FALSE NEIGHBOUR: 'it returns false'. Refute it at one input. -/
def hypothesisCounterWrong : ChangeSpec := { name := "hypothesisCounter", fn := fun _ => fun
  | [d1, d2] => { results := [.lit (.bool false)], args := [d1, d2] }
  | _ => none }
def HypothesisCounterWrongFalsely : Prop := hypothesisCounterRow.holds Try.pinned (OpenSpec.ofChange hypothesisCounterWrong)

/-- 'learnerlaw16.ObserveAnswers': WHATEVER THE INPUT: true; the input reads as it did. -/
def observeAnswersSpec : ChangeSpec := { name := "observeAnswers", fn := fun _ => fun
  | [d1, d2, d3] => { results := [.lit (.bool true)], args := [d1, d2, d3] }
  | _ => none }
def observeAnswersRow : OpenClaim := { program := "ytngkckefanbhgaa", sum := "0f646a16c6a338fca9dca5829a6d5380560303283a487cc8cb0fbc94da385489", func := "learner/learnerlaw16.ObserveAnswers", spec := "observeAnswers", inPlace := ["slices.overlaps[learner/api.Trace]"], unfollowed := true, recurses := true, apart := false }
def ObserveAnswersSaid : Prop := observeAnswersRow.holds Try.pinned (OpenSpec.ofChange observeAnswersSpec)

/-- ITS FALSE NEIGHBOUR: 'it returns false'. Refute it at one input. -/
def observeAnswersWrong : ChangeSpec := { name := "observeAnswers", fn := fun _ => fun
  | [d1, d2, d3] => { results := [.lit (.bool false)], args := [d1, d2, d3] }
  | _ => none }
def ObserveAnswersWrongFalsely : Prop := observeAnswersRow.holds Try.pinned (OpenSpec.ofChange observeAnswersWrong)

/-- 'learnerlaw16.ObserveAdds': WHATEVER THE INPUT: true; the input reads as it did. -/
def observeAddsSpec : ChangeSpec := { name := "observeAdds", fn := fun _ => fun
  | [d1, d2] => { results := [.lit (.bool true)], args := [d1, d2] }
  | _ => none }
def observeAddsRow : OpenClaim := { program := "ytngkckefanbhgaa", sum := "0f646a16c6a338fca9dca5829a6d5380560303283a487cc8cb0fbc94da385489", func := "learner/learnerlaw16.ObserveAdds", spec := "observeAdds", inPlace := ["slices.overlaps[learner/api.Trace]"], unfollowed := true, recurses := true, apart := false }
def ObserveAddsSaid : Prop := observeAddsRow.holds Try.pinned (OpenSpec.ofChange observeAddsSpec)

/-- ITS FALSE NEIGHBOUR: 'it returns false'. Refute it at one input. -/
def observeAddsWrong : ChangeSpec := { name := "observeAdds", fn := fun _ => fun
  | [d1, d2] => { results := [.lit (.bool false)], args := [d1, d2] }
  | _ => none }
def ObserveAddsWrongFalsely : Prop := observeAddsRow.holds Try.pinned (OpenSpec.ofChange observeAddsWrong)

/-- 'learnerlaw16.ObserveMerges': WHATEVER THE INPUT: true; the input reads as it did. -/
def observeMergesSpec : ChangeSpec := { name := "observeMerges", fn := fun _ => fun
  | [d1, d2] => { results := [.lit (.bool true)], args := [d1, d2] }
  | _ => none }
def observeMergesRow : OpenClaim := { program := "ytngkckefanbhgaa", sum := "0f646a16c6a338fca9dca5829a6d5380560303283a487cc8cb0fbc94da385489", func := "learner/learnerlaw16.ObserveMerges", spec := "observeMerges", inPlace := ["slices.overlaps[learner/api.Trace]"], unfollowed := true, recurses := true, apart := false }
def ObserveMergesSaid : Prop := observeMergesRow.holds Try.pinned (OpenSpec.ofChange observeMergesSpec)

/-- ITS FALSE NEIGHBOUR: 'it returns false'. Refute it at one input. -/
def observeMergesWrong : ChangeSpec := { name := "observeMerges", fn := fun _ => fun
  | [d1, d2] => { results := [.lit (.bool false)], args := [d1, d2] }
  | _ => none }
def ObserveMergesWrongFalsely : Prop := observeMergesRow.holds Try.pinned (OpenSpec.ofChange observeMergesWrong)

/-- 'learnerlaw16.ObserveValid': WHATEVER THE INPUT: true; the input reads as it did. -/
def observeValidSpec : ChangeSpec := { name := "observeValid", fn := fun _ => fun
  | [d1, d2, d3] => { results := [.lit (.bool true)], args := [d1, d2, d3] }
  | _ => none }
def observeValidRow : OpenClaim := { program := "ytngkckefanbhgaa", sum := "0f646a16c6a338fca9dca5829a6d5380560303283a487cc8cb0fbc94da385489", func := "learner/learnerlaw16.ObserveValid", spec := "observeValid", inPlace := ["slices.overlaps[learner/api.Trace]"], unfollowed := true, recurses := true, apart := false }
def ObserveValidSaid : Prop := observeValidRow.holds Try.pinned (OpenSpec.ofChange observeValidSpec)

/-- ITS FALSE NEIGHBOUR: 'it returns false'. Refute it at one input. -/
def observeValidWrong : ChangeSpec := { name := "observeValid", fn := fun _ => fun
  | [d1, d2, d3] => { results := [.lit (.bool false)], args := [d1, d2, d3] }
  | _ => none }
def ObserveValidWrongFalsely : Prop := observeValidRow.holds Try.pinned (OpenSpec.ofChange observeValidWrong)

/-- 'learnerlaw16.ObserveOrder': WHATEVER THE INPUT: true; the input reads as it did. -/
def observeOrderSpec : ChangeSpec := { name := "observeOrder", fn := fun _ => fun
  | [d1, d2, d3] => { results := [.lit (.bool true)], args := [d1, d2, d3] }
  | _ => none }
def observeOrderRow : OpenClaim := { program := "ytngkckefanbhgaa", sum := "0f646a16c6a338fca9dca5829a6d5380560303283a487cc8cb0fbc94da385489", func := "learner/learnerlaw16.ObserveOrder", spec := "observeOrder", inPlace := ["slices.overlaps[learner/api.Trace]"], unfollowed := true, recurses := true, apart := false }
def ObserveOrderSaid : Prop := observeOrderRow.holds Try.pinned (OpenSpec.ofChange observeOrderSpec)

/-- ITS FALSE NEIGHBOUR: 'it returns false'. Refute it at one input. -/
def observeOrderWrong : ChangeSpec := { name := "observeOrder", fn := fun _ => fun
  | [d1, d2, d3] => { results := [.lit (.bool false)], args := [d1, d2, d3] }
  | _ => none }
def ObserveOrderWrongFalsely : Prop := observeOrderRow.holds Try.pinned (OpenSpec.ofChange observeOrderWrong)

/-- 'learnerlaw16.ObserveMachines': WHATEVER THE INPUT: true; the input reads as it did. -/
def observeMachinesSpec : ChangeSpec := { name := "observeMachines", fn := fun _ => fun
  | [d1, d2] => { results := [.lit (.bool true)], args := [d1, d2] }
  | _ => none }
def observeMachinesRow : OpenClaim := { program := "ytngkckefanbhgaa", sum := "0f646a16c6a338fca9dca5829a6d5380560303283a487cc8cb0fbc94da385489", func := "learner/learnerlaw16.ObserveMachines", spec := "observeMachines", inPlace := ["slices.overlaps[learner/api.Trace]"], unfollowed := true, recurses := true, apart := false }
def ObserveMachinesSaid : Prop := observeMachinesRow.holds Try.pinned (OpenSpec.ofChange observeMachinesSpec)

/-- ITS FALSE NEIGHBOUR: 'it returns false'. Refute it at one input. -/
def observeMachinesWrong : ChangeSpec := { name := "observeMachines", fn := fun _ => fun
  | [d1, d2] => { results := [.lit (.bool false)], args := [d1, d2] }
  | _ => none }
def ObserveMachinesWrongFalsely : Prop := observeMachinesRow.holds Try.pinned (OpenSpec.ofChange observeMachinesWrong)

/-- 'learnerlaw16.ObserveExact': WHATEVER THE INPUT: true; the input reads as it did. -/
def observeExactSpec : ChangeSpec := { name := "observeExact", fn := fun _ => fun
  | [d1, d2, d3] => { results := [.lit (.bool true)], args := [d1, d2, d3] }
  | _ => none }
def observeExactRow : OpenClaim := { program := "ytngkckefanbhgaa", sum := "0f646a16c6a338fca9dca5829a6d5380560303283a487cc8cb0fbc94da385489", func := "learner/learnerlaw16.ObserveExact", spec := "observeExact", inPlace := ["slices.overlaps[learner/api.Trace]"], unfollowed := true, recurses := true, apart := false }
def ObserveExactSaid : Prop := observeExactRow.holds Try.pinned (OpenSpec.ofChange observeExactSpec)

/-- ITS FALSE NEIGHBOUR: 'it returns false'. Refute it at one input. -/
def observeExactWrong : ChangeSpec := { name := "observeExact", fn := fun _ => fun
  | [d1, d2, d3] => { results := [.lit (.bool false)], args := [d1, d2, d3] }
  | _ => none }
def ObserveExactWrongFalsely : Prop := observeExactRow.holds Try.pinned (OpenSpec.ofChange observeExactWrong)

/- THE SECOND FORM. 'bulk': how many values and letters a reading holds, each counted each time it is reached (what is shared counts as often as it is met; a slice's spare places count too). A statement '..UptoSaid' is the law's where the arguments, and the package variables that the reading takes, are together of bulk at most 1048576: NARROWER than '..Said'. Prove '..Said' where nothing that the law and all that it calls make is longer than what came in: it says more and counts as full. Else prove '..UptoSaid'. A law counts once. -/
mutual
def uptoBulk {H : Type} : DataW H → Nat
  | .lit (.string bytes) => bytes.length + 1
  | .lit _ => 1
  | .nil => 1
  | .ptr d => uptoBulk d + 1
  | .slice elems spare => uptoBulkAll elems + uptoBulkAll spare + 1
  | .agg parts => uptoBulkAll parts + 1
  | .iface _ d => uptoBulk d + 1
  | .map entries => uptoBulkEntries entries + 1
  | .held _ => 1
def uptoBulkAll {H : Type} : List (DataW H) → Nat
  | [] => 0
  | d :: r => uptoBulk d + uptoBulkAll r
def uptoBulkEntries {H : Type} : List (Lit × DataW H) → Nat
  | [] => 0
  | x :: r => uptoBulkEntry x + uptoBulkEntries r
def uptoBulkEntry {H : Type} : Lit × DataW H → Nat
  | (.string bytes, d) => bytes.length + uptoBulk d + 1
  | (_, d) => uptoBulk d + 1
 end
def uptoSmall : (H : Type) → List (DataW H) → Bool := fun _ ds => decide (uptoBulkAll ds ≤ 1048576)
def OpenSpec.upto (s : _root_.Go.ChangeSpec) : _root_.Go.OpenSpec := { _root_.Go.OpenSpec.ofChange s with cond := some uptoSmall }

/-- 'learnerlaw22.HypothesisValid', WHERE WHAT IT READS IS OF BULK AT MOST 1048576: true; the input reads as it did. -/
def hypothesisValidUptoRow : OpenClaim := { program := "ytngkckefanbhgaa", sum := "0f646a16c6a338fca9dca5829a6d5380560303283a487cc8cb0fbc94da385489", func := "learner/learnerlaw22.HypothesisValid", spec := "hypothesisValid", unfollowed := true, recurses := true, apart := false, narrowed := true }
def HypothesisValidUptoSaid : Prop := hypothesisValidUptoRow.holds Try.pinned (OpenSpec.upto hypothesisValidSpec)

/-- 'learnerlaw22.HypothesisRefuted', WHERE WHAT IT READS IS OF BULK AT MOST 1048576: true; the input reads as it did. -/
def hypothesisRefutedUptoRow : OpenClaim := { program := "ytngkckefanbhgaa", sum := "0f646a16c6a338fca9dca5829a6d5380560303283a487cc8cb0fbc94da385489", func := "learner/learnerlaw22.HypothesisRefuted", spec := "hypothesisRefuted", unfollowed := true, recurses := true, apart := false, narrowed := true }
def HypothesisRefutedUptoSaid : Prop := hypothesisRefutedUptoRow.holds Try.pinned (OpenSpec.upto hypothesisRefutedSpec)

/-- 'learnerlaw22.HypothesisApart', WHERE WHAT IT READS IS OF BULK AT MOST 1048576: true; the input reads as it did. -/
def hypothesisApartUptoRow : OpenClaim := { program := "ytngkckefanbhgaa", sum := "0f646a16c6a338fca9dca5829a6d5380560303283a487cc8cb0fbc94da385489", func := "learner/learnerlaw22.HypothesisApart", spec := "hypothesisApart", unfollowed := true, recurses := true, apart := false, narrowed := true }
def HypothesisApartUptoSaid : Prop := hypothesisApartUptoRow.holds Try.pinned (OpenSpec.upto hypothesisApartSpec)

/-- 'learnerlaw22.HypothesisLower', WHERE WHAT IT READS IS OF BULK AT MOST 1048576: true; the input reads as it did. -/
def hypothesisLowerUptoRow : OpenClaim := { program := "ytngkckefanbhgaa", sum := "0f646a16c6a338fca9dca5829a6d5380560303283a487cc8cb0fbc94da385489", func := "learner/learnerlaw22.HypothesisLower", spec := "hypothesisLower", inPlace := ["slices.overlaps[learner/api.Trace]"], unfollowed := true, recurses := true, apart := false, narrowed := true }
def HypothesisLowerUptoSaid : Prop := hypothesisLowerUptoRow.holds Try.pinned (OpenSpec.upto hypothesisLowerSpec)

/-- 'learnerlaw22.HypothesisCounter', WHERE WHAT IT READS IS OF BULK AT MOST 1048576: true; the input reads as it did. -/
def hypothesisCounterUptoRow : OpenClaim := { program := "ytngkckefanbhgaa", sum := "0f646a16c6a338fca9dca5829a6d5380560303283a487cc8cb0fbc94da385489", func := "learner/learnerlaw22.HypothesisCounter", spec := "hypothesisCounter", unfollowed := true, recurses := true, apart := false, narrowed := true }
def HypothesisCounterUptoSaid : Prop := hypothesisCounterUptoRow.holds Try.pinned (OpenSpec.upto hypothesisCounterSpec)

/-- 'learnerlaw16.ObserveAnswers', WHERE WHAT IT READS IS OF BULK AT MOST 1048576: true; the input reads as it did. -/
def observeAnswersUptoRow : OpenClaim := { program := "ytngkckefanbhgaa", sum := "0f646a16c6a338fca9dca5829a6d5380560303283a487cc8cb0fbc94da385489", func := "learner/learnerlaw16.ObserveAnswers", spec := "observeAnswers", inPlace := ["slices.overlaps[learner/api.Trace]"], unfollowed := true, recurses := true, apart := false, narrowed := true }
def ObserveAnswersUptoSaid : Prop := observeAnswersUptoRow.holds Try.pinned (OpenSpec.upto observeAnswersSpec)

/-- 'learnerlaw16.ObserveAdds', WHERE WHAT IT READS IS OF BULK AT MOST 1048576: true; the input reads as it did. -/
def observeAddsUptoRow : OpenClaim := { program := "ytngkckefanbhgaa", sum := "0f646a16c6a338fca9dca5829a6d5380560303283a487cc8cb0fbc94da385489", func := "learner/learnerlaw16.ObserveAdds", spec := "observeAdds", inPlace := ["slices.overlaps[learner/api.Trace]"], unfollowed := true, recurses := true, apart := false, narrowed := true }
def ObserveAddsUptoSaid : Prop := observeAddsUptoRow.holds Try.pinned (OpenSpec.upto observeAddsSpec)

/-- 'learnerlaw16.ObserveMerges', WHERE WHAT IT READS IS OF BULK AT MOST 1048576: true; the input reads as it did. -/
def observeMergesUptoRow : OpenClaim := { program := "ytngkckefanbhgaa", sum := "0f646a16c6a338fca9dca5829a6d5380560303283a487cc8cb0fbc94da385489", func := "learner/learnerlaw16.ObserveMerges", spec := "observeMerges", inPlace := ["slices.overlaps[learner/api.Trace]"], unfollowed := true, recurses := true, apart := false, narrowed := true }
def ObserveMergesUptoSaid : Prop := observeMergesUptoRow.holds Try.pinned (OpenSpec.upto observeMergesSpec)

/-- 'learnerlaw16.ObserveValid', WHERE WHAT IT READS IS OF BULK AT MOST 1048576: true; the input reads as it did. -/
def observeValidUptoRow : OpenClaim := { program := "ytngkckefanbhgaa", sum := "0f646a16c6a338fca9dca5829a6d5380560303283a487cc8cb0fbc94da385489", func := "learner/learnerlaw16.ObserveValid", spec := "observeValid", inPlace := ["slices.overlaps[learner/api.Trace]"], unfollowed := true, recurses := true, apart := false, narrowed := true }
def ObserveValidUptoSaid : Prop := observeValidUptoRow.holds Try.pinned (OpenSpec.upto observeValidSpec)

/-- 'learnerlaw16.ObserveOrder', WHERE WHAT IT READS IS OF BULK AT MOST 1048576: true; the input reads as it did. -/
def observeOrderUptoRow : OpenClaim := { program := "ytngkckefanbhgaa", sum := "0f646a16c6a338fca9dca5829a6d5380560303283a487cc8cb0fbc94da385489", func := "learner/learnerlaw16.ObserveOrder", spec := "observeOrder", inPlace := ["slices.overlaps[learner/api.Trace]"], unfollowed := true, recurses := true, apart := false, narrowed := true }
def ObserveOrderUptoSaid : Prop := observeOrderUptoRow.holds Try.pinned (OpenSpec.upto observeOrderSpec)

/-- 'learnerlaw16.ObserveMachines', WHERE WHAT IT READS IS OF BULK AT MOST 1048576: true; the input reads as it did. -/
def observeMachinesUptoRow : OpenClaim := { program := "ytngkckefanbhgaa", sum := "0f646a16c6a338fca9dca5829a6d5380560303283a487cc8cb0fbc94da385489", func := "learner/learnerlaw16.ObserveMachines", spec := "observeMachines", inPlace := ["slices.overlaps[learner/api.Trace]"], unfollowed := true, recurses := true, apart := false, narrowed := true }
def ObserveMachinesUptoSaid : Prop := observeMachinesUptoRow.holds Try.pinned (OpenSpec.upto observeMachinesSpec)

/-- 'learnerlaw16.ObserveExact', WHERE WHAT IT READS IS OF BULK AT MOST 1048576: true; the input reads as it did. -/
def observeExactUptoRow : OpenClaim := { program := "ytngkckefanbhgaa", sum := "0f646a16c6a338fca9dca5829a6d5380560303283a487cc8cb0fbc94da385489", func := "learner/learnerlaw16.ObserveExact", spec := "observeExact", inPlace := ["slices.overlaps[learner/api.Trace]"], unfollowed := true, recurses := true, apart := false, narrowed := true }
def ObserveExactUptoSaid : Prop := observeExactUptoRow.holds Try.pinned (OpenSpec.upto observeExactSpec)

end Rows
end Go.Proofs.Ytngkckefanbhgaa
