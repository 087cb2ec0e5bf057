/-
  No cell of these rows narrows 'for every input' (looked for: loops, veiled, ifaces, maps, wideKeys, modest, calm, conditions, laid).
  DERIVED. THE GIVEN ROWS OF THIS SEAT. 10 by the template 'for every input the law returns true; each argument reads behind the call as it read before'; 0 by the template 'total and deterministic' (their statements: YthekamjhgabkjaaGreatTotals.lean).
  GIVEN WITH THE SEED: the statements are not yours to turn. If you find one false, say at which input.
  Laid BY PROGRAM, IN A SANDBOX (cutbox-rows.mjs): the forced cells as the released guide's own fill.sh prints them over the translation a90c9382ede7423d… (all of the seat's roots in one cut). By AI agents, Wed Nov 11 2026. No macro, syntax, notation, axiom, sorry.
-/
import Derived.Test.YthekamjhgabkjaaGreatChecked
import GoSem.Claim
import GoSem.ClaimJoined
import GoSem.ClaimMapViews
import Derived.JoinedTies
import Derived.KernelRfl
namespace Go.Proofs.YthekamjhgabkjaaGreat
/- THE CELL 'sum', in the pinned program and in every row, IS THE sha256 OF THE DUMP (.gsa) THAT YthekamjhgabkjaaGreatProg.lean LOADS. Nothing in Lean hashes anything: it is a label: what it is worth is what the hold of that sum in a sandbox is worth. -/
noncomputable def Tryz.pinned : Pinned := { name := "ythekamjhgabkjaagreat", sum := "a90c9382ede7423dfe92782dbb9158ab209677a47e4a9287e08b8c9d1ef2b7fe", checked := Tryz.checked }
namespace Rows
def none {H : Type} : Left H := { results := [], args := [] }

/-- 'laws.FnExactStepsWith': WHATEVER THE INPUT: true; the input reads as it did. -/
def fnExactStepsWithSpec : ChangeSpec := { name := "fnExactStepsWith", fn := fun _ => fun
  | [d1, d2] => { results := [.lit (.bool true)], args := [d1, d2] }
  | _ => none }
def fnExactStepsWithRow : OpenClaim := { program := "ythekamjhgabkjaagreat", sum := "a90c9382ede7423dfe92782dbb9158ab209677a47e4a9287e08b8c9d1ef2b7fe", func := "loop.example/g01175/laws.FnExactStepsWith", spec := "fnExactStepsWith", inPlace := ["internal/bytealg.IndexByteString"], unfollowed := true, recurses := true, plainKeys := false, apart := false }
def FnExactStepsWithSaid : Prop := fnExactStepsWithRow.holds Tryz.pinned (OpenSpec.ofChange fnExactStepsWithSpec)

/-- ITS FALSE NEIGHBOUR: 'it returns false'. Refute it at one input. -/
def fnExactStepsWithWrong : ChangeSpec := { name := "fnExactStepsWith", fn := fun _ => fun
  | [d1, d2] => { results := [.lit (.bool false)], args := [d1, d2] }
  | _ => none }
def FnExactStepsWithWrongFalsely : Prop := fnExactStepsWithRow.holds Tryz.pinned (OpenSpec.ofChange fnExactStepsWithWrong)

/-- 'laws.FnExactCommunicationsOf': WHATEVER THE INPUT: true; the input reads as it did. -/
def fnExactCommunicationsOfSpec : ChangeSpec := { name := "fnExactCommunicationsOf", fn := fun _ => fun
  | [d1, d2] => { results := [.lit (.bool true)], args := [d1, d2] }
  | _ => none }
def fnExactCommunicationsOfRow : OpenClaim := { program := "ythekamjhgabkjaagreat", sum := "a90c9382ede7423dfe92782dbb9158ab209677a47e4a9287e08b8c9d1ef2b7fe", func := "loop.example/g01175/laws.FnExactCommunicationsOf", spec := "fnExactCommunicationsOf", inPlace := ["internal/bytealg.IndexByteString"], unfollowed := true, recurses := true, plainKeys := false, apart := false }
def FnExactCommunicationsOfSaid : Prop := fnExactCommunicationsOfRow.holds Tryz.pinned (OpenSpec.ofChange fnExactCommunicationsOfSpec)

/-- ITS FALSE NEIGHBOUR: 'it returns false'. Refute it at one input. -/
def fnExactCommunicationsOfWrong : ChangeSpec := { name := "fnExactCommunicationsOf", fn := fun _ => fun
  | [d1, d2] => { results := [.lit (.bool false)], args := [d1, d2] }
  | _ => none }
def FnExactCommunicationsOfWrongFalsely : Prop := fnExactCommunicationsOfRow.holds Tryz.pinned (OpenSpec.ofChange fnExactCommunicationsOfWrong)

/-- 'laws.FnExactAfterLabels': WHATEVER THE INPUT: true; the input reads as it did. -/
def fnExactAfterLabelsSpec : ChangeSpec := { name := "fnExactAfterLabels", fn := fun _ => fun
  | [d1, d2] => { results := [.lit (.bool true)], args := [d1, d2] }
  | _ => none }
def fnExactAfterLabelsRow : OpenClaim := { program := "ythekamjhgabkjaagreat", sum := "a90c9382ede7423dfe92782dbb9158ab209677a47e4a9287e08b8c9d1ef2b7fe", func := "loop.example/g01175/laws.FnExactAfterLabels", spec := "fnExactAfterLabels", inPlace := ["internal/bytealg.IndexByteString"], unfollowed := true, recurses := true, plainKeys := false, apart := false }
def FnExactAfterLabelsSaid : Prop := fnExactAfterLabelsRow.holds Tryz.pinned (OpenSpec.ofChange fnExactAfterLabelsSpec)

/-- ITS FALSE NEIGHBOUR: 'it returns false'. Refute it at one input. -/
def fnExactAfterLabelsWrong : ChangeSpec := { name := "fnExactAfterLabels", fn := fun _ => fun
  | [d1, d2] => { results := [.lit (.bool false)], args := [d1, d2] }
  | _ => none }
def FnExactAfterLabelsWrongFalsely : Prop := fnExactAfterLabelsRow.holds Tryz.pinned (OpenSpec.ofChange fnExactAfterLabelsWrong)

/-- 'laws.FnExactParallelSteps': WHATEVER THE INPUT: true; the input reads as it did. -/
def fnExactParallelStepsSpec : ChangeSpec := { name := "fnExactParallelSteps", fn := fun _ => fun
  | [d1, d2] => { results := [.lit (.bool true)], args := [d1, d2] }
  | _ => none }
def fnExactParallelStepsRow : OpenClaim := { program := "ythekamjhgabkjaagreat", sum := "a90c9382ede7423dfe92782dbb9158ab209677a47e4a9287e08b8c9d1ef2b7fe", func := "loop.example/g01175/laws.FnExactParallelSteps", spec := "fnExactParallelSteps", inPlace := ["internal/bytealg.IndexByteString"], unfollowed := true, recurses := true, plainKeys := false, apart := false }
def FnExactParallelStepsSaid : Prop := fnExactParallelStepsRow.holds Tryz.pinned (OpenSpec.ofChange fnExactParallelStepsSpec)

/-- ITS FALSE NEIGHBOUR: 'it returns false'. Refute it at one input. -/
def fnExactParallelStepsWrong : ChangeSpec := { name := "fnExactParallelSteps", fn := fun _ => fun
  | [d1, d2] => { results := [.lit (.bool false)], args := [d1, d2] }
  | _ => none }
def FnExactParallelStepsWrongFalsely : Prop := fnExactParallelStepsRow.holds Tryz.pinned (OpenSpec.ofChange fnExactParallelStepsWrong)

/-- 'laws.FnExactInputSteps': WHATEVER THE INPUT: true; the input reads as it did. -/
def fnExactInputStepsSpec : ChangeSpec := { name := "fnExactInputSteps", fn := fun _ => fun
  | [d1, d2] => { results := [.lit (.bool true)], args := [d1, d2] }
  | _ => none }
def fnExactInputStepsRow : OpenClaim := { program := "ythekamjhgabkjaagreat", sum := "a90c9382ede7423dfe92782dbb9158ab209677a47e4a9287e08b8c9d1ef2b7fe", func := "loop.example/g01175/laws.FnExactInputSteps", spec := "fnExactInputSteps", inPlace := ["internal/bytealg.IndexByteString"], unfollowed := true, recurses := true, plainKeys := false, apart := false }
def FnExactInputStepsSaid : Prop := fnExactInputStepsRow.holds Tryz.pinned (OpenSpec.ofChange fnExactInputStepsSpec)

/-- ITS FALSE NEIGHBOUR: 'it returns false'. Refute it at one input. -/
def fnExactInputStepsWrong : ChangeSpec := { name := "fnExactInputSteps", fn := fun _ => fun
  | [d1, d2] => { results := [.lit (.bool false)], args := [d1, d2] }
  | _ => none }
def FnExactInputStepsWrongFalsely : Prop := fnExactInputStepsRow.holds Tryz.pinned (OpenSpec.ofChange fnExactInputStepsWrong)

/-- 'laws.FnExactSatisfies': WHATEVER THE INPUT: true; the input reads as it did. -/
def fnExactSatisfiesSpec : ChangeSpec := { name := "fnExactSatisfies", fn := fun _ => fun
  | [d1, d2] => { results := [.lit (.bool true)], args := [d1, d2] }
  | _ => none }
def fnExactSatisfiesRow : OpenClaim := { program := "ythekamjhgabkjaagreat", sum := "a90c9382ede7423dfe92782dbb9158ab209677a47e4a9287e08b8c9d1ef2b7fe", func := "loop.example/g01175/laws.FnExactSatisfies", spec := "fnExactSatisfies", inPlace := ["internal/bytealg.IndexByteString"], unfollowed := true, recurses := true, plainKeys := false, apart := false }
def FnExactSatisfiesSaid : Prop := fnExactSatisfiesRow.holds Tryz.pinned (OpenSpec.ofChange fnExactSatisfiesSpec)

/-- ITS FALSE NEIGHBOUR: 'it returns false'. Refute it at one input. -/
def fnExactSatisfiesWrong : ChangeSpec := { name := "fnExactSatisfies", fn := fun _ => fun
  | [d1, d2] => { results := [.lit (.bool false)], args := [d1, d2] }
  | _ => none }
def FnExactSatisfiesWrongFalsely : Prop := fnExactSatisfiesRow.holds Tryz.pinned (OpenSpec.ofChange fnExactSatisfiesWrong)

/-- 'laws.FnExactOutputSteps': WHATEVER THE INPUT: true; the input reads as it did. -/
def fnExactOutputStepsSpec : ChangeSpec := { name := "fnExactOutputSteps", fn := fun _ => fun
  | [d] => { results := [.lit (.bool true)], args := [d] }
  | _ => none }
def fnExactOutputStepsRow : OpenClaim := { program := "ythekamjhgabkjaagreat", sum := "a90c9382ede7423dfe92782dbb9158ab209677a47e4a9287e08b8c9d1ef2b7fe", func := "loop.example/g01175/laws.FnExactOutputSteps", spec := "fnExactOutputSteps", inPlace := ["internal/bytealg.IndexByteString"], unfollowed := true, recurses := true, plainKeys := false, apart := false }
def FnExactOutputStepsSaid : Prop := fnExactOutputStepsRow.holds Tryz.pinned (OpenSpec.ofChange fnExactOutputStepsSpec)

/-- ITS FALSE NEIGHBOUR: 'it returns false'. Refute it at one input. -/
def fnExactOutputStepsWrong : ChangeSpec := { name := "fnExactOutputSteps", fn := fun _ => fun
  | [d] => { results := [.lit (.bool false)], args := [d] }
  | _ => none }
def FnExactOutputStepsWrongFalsely : Prop := fnExactOutputStepsRow.holds Tryz.pinned (OpenSpec.ofChange fnExactOutputStepsWrong)

/-- 'laws.FnExactLabelsOf': WHATEVER THE INPUT: true; the input reads as it did. -/
def fnExactLabelsOfSpec : ChangeSpec := { name := "fnExactLabelsOf", fn := fun _ => fun
  | [d] => { results := [.lit (.bool true)], args := [d] }
  | _ => none }
def fnExactLabelsOfRow : OpenClaim := { program := "ythekamjhgabkjaagreat", sum := "a90c9382ede7423dfe92782dbb9158ab209677a47e4a9287e08b8c9d1ef2b7fe", func := "loop.example/g01175/laws.FnExactLabelsOf", spec := "fnExactLabelsOf", inPlace := ["internal/bytealg.IndexByteString"], unfollowed := true, recurses := true, plainKeys := false, apart := false }
def FnExactLabelsOfSaid : Prop := fnExactLabelsOfRow.holds Tryz.pinned (OpenSpec.ofChange fnExactLabelsOfSpec)

/-- ITS FALSE NEIGHBOUR: 'it returns false'. Refute it at one input. -/
def fnExactLabelsOfWrong : ChangeSpec := { name := "fnExactLabelsOf", fn := fun _ => fun
  | [d] => { results := [.lit (.bool false)], args := [d] }
  | _ => none }
def FnExactLabelsOfWrongFalsely : Prop := fnExactLabelsOfRow.holds Tryz.pinned (OpenSpec.ofChange fnExactLabelsOfWrong)

/-- 'laws.FnExactStepsOf': WHATEVER THE INPUT: true; the input reads as it did. -/
def fnExactStepsOfSpec : ChangeSpec := { name := "fnExactStepsOf", fn := fun _ => fun
  | [d] => { results := [.lit (.bool true)], args := [d] }
  | _ => none }
def fnExactStepsOfRow : OpenClaim := { program := "ythekamjhgabkjaagreat", sum := "a90c9382ede7423dfe92782dbb9158ab209677a47e4a9287e08b8c9d1ef2b7fe", func := "loop.example/g01175/laws.FnExactStepsOf", spec := "fnExactStepsOf", inPlace := ["internal/bytealg.IndexByteString"], unfollowed := true, recurses := true, plainKeys := false, apart := false }
def FnExactStepsOfSaid : Prop := fnExactStepsOfRow.holds Tryz.pinned (OpenSpec.ofChange fnExactStepsOfSpec)

/-- ITS FALSE NEIGHBOUR: 'it returns false'. Refute it at one input. -/
def fnExactStepsOfWrong : ChangeSpec := { name := "fnExactStepsOf", fn := fun _ => fun
  | [d] => { results := [.lit (.bool false)], args := [d] }
  | _ => none }
def FnExactStepsOfWrongFalsely : Prop := fnExactStepsOfRow.holds Tryz.pinned (OpenSpec.ofChange fnExactStepsOfWrong)

/-- 'laws.FnExactTracesOf': WHATEVER THE INPUT: true; the input reads as it did. -/
def fnExactTracesOfSpec : ChangeSpec := { name := "fnExactTracesOf", fn := fun _ => fun
  | [d1, d2] => { results := [.lit (.bool true)], args := [d1, d2] }
  | _ => none }
def fnExactTracesOfRow : OpenClaim := { program := "ythekamjhgabkjaagreat", sum := "a90c9382ede7423dfe92782dbb9158ab209677a47e4a9287e08b8c9d1ef2b7fe", func := "loop.example/g01175/laws.FnExactTracesOf", spec := "fnExactTracesOf", inPlace := ["internal/bytealg.IndexByteString"], unfollowed := true, recurses := true, plainKeys := false, apart := false }
def FnExactTracesOfSaid : Prop := fnExactTracesOfRow.holds Tryz.pinned (OpenSpec.ofChange fnExactTracesOfSpec)

/-- ITS FALSE NEIGHBOUR: 'it returns false'. Refute it at one input. -/
def fnExactTracesOfWrong : ChangeSpec := { name := "fnExactTracesOf", fn := fun _ => fun
  | [d1, d2] => { results := [.lit (.bool false)], args := [d1, d2] }
  | _ => none }
def FnExactTracesOfWrongFalsely : Prop := fnExactTracesOfRow.holds Tryz.pinned (OpenSpec.ofChange fnExactTracesOfWrong)

/- THE SECOND FORM. 'bulk': how many values and letters a reading holds, each counted each time it is reached (what is shared counts as often as it is met; a slice's spare places count too). A statement '..UptoSaid' is the law's where the arguments, and the package variables that the reading takes, are together of bulk at most 1048576: NARROWER than '..Said'. Prove '..Said' where nothing that the law and all that it calls make is longer than what came in: it says more and counts as full. Else prove '..UptoSaid'. A law counts once. -/
mutual
def uptoBulk {H : Type} : DataW H → Nat
  | .lit (.string bytes) => bytes.length + 1
  | .lit _ => 1
  | .nil => 1
  | .ptr d => uptoBulk d + 1
  | .slice elems spare => uptoBulkAll elems + uptoBulkAll spare + 1
  | .agg parts => uptoBulkAll parts + 1
  | .iface _ d => uptoBulk d + 1
  | .map entries => uptoBulkEntries entries + 1
  | .held _ => 1
def uptoBulkAll {H : Type} : List (DataW H) → Nat
  | [] => 0
  | d :: r => uptoBulk d + uptoBulkAll r
def uptoBulkEntries {H : Type} : List (Lit × DataW H) → Nat
  | [] => 0
  | x :: r => uptoBulkEntry x + uptoBulkEntries r
def uptoBulkEntry {H : Type} : Lit × DataW H → Nat
  | (.string bytes, d) => bytes.length + uptoBulk d + 1
  | (_, d) => uptoBulk d + 1
 end
def uptoSmall : (H : Type) → List (DataW H) → Bool := fun _ ds => decide (uptoBulkAll ds ≤ 1048576)
def OpenSpec.upto (s : _root_.Go.ChangeSpec) : _root_.Go.OpenSpec := { _root_.Go.OpenSpec.ofChange s with cond := some uptoSmall }

/-- 'laws.FnExactStepsWith', WHERE WHAT IT READS IS OF BULK AT MOST 1048576: true; the input reads as it did. -/
def fnExactStepsWithUptoRow : OpenClaim := { program := "ythekamjhgabkjaagreat", sum := "a90c9382ede7423dfe92782dbb9158ab209677a47e4a9287e08b8c9d1ef2b7fe", func := "loop.example/g01175/laws.FnExactStepsWith", spec := "fnExactStepsWith", inPlace := ["internal/bytealg.IndexByteString"], unfollowed := true, recurses := true, plainKeys := false, apart := false, narrowed := true }
def FnExactStepsWithUptoSaid : Prop := fnExactStepsWithUptoRow.holds Tryz.pinned (OpenSpec.upto fnExactStepsWithSpec)

/-- 'laws.FnExactCommunicationsOf', WHERE WHAT IT READS IS OF BULK AT MOST 1048576: true; the input reads as it did. -/
def fnExactCommunicationsOfUptoRow : OpenClaim := { program := "ythekamjhgabkjaagreat", sum := "a90c9382ede7423dfe92782dbb9158ab209677a47e4a9287e08b8c9d1ef2b7fe", func := "loop.example/g01175/laws.FnExactCommunicationsOf", spec := "fnExactCommunicationsOf", inPlace := ["internal/bytealg.IndexByteString"], unfollowed := true, recurses := true, plainKeys := false, apart := false, narrowed := true }
def FnExactCommunicationsOfUptoSaid : Prop := fnExactCommunicationsOfUptoRow.holds Tryz.pinned (OpenSpec.upto fnExactCommunicationsOfSpec)

/-- 'laws.FnExactAfterLabels', WHERE WHAT IT READS IS OF BULK AT MOST 1048576: true; the input reads as it did. -/
def fnExactAfterLabelsUptoRow : OpenClaim := { program := "ythekamjhgabkjaagreat", sum := "a90c9382ede7423dfe92782dbb9158ab209677a47e4a9287e08b8c9d1ef2b7fe", func := "loop.example/g01175/laws.FnExactAfterLabels", spec := "fnExactAfterLabels", inPlace := ["internal/bytealg.IndexByteString"], unfollowed := true, recurses := true, plainKeys := false, apart := false, narrowed := true }
def FnExactAfterLabelsUptoSaid : Prop := fnExactAfterLabelsUptoRow.holds Tryz.pinned (OpenSpec.upto fnExactAfterLabelsSpec)

/-- 'laws.FnExactParallelSteps', WHERE WHAT IT READS IS OF BULK AT MOST 1048576: true; the input reads as it did. -/
def fnExactParallelStepsUptoRow : OpenClaim := { program := "ythekamjhgabkjaagreat", sum := "a90c9382ede7423dfe92782dbb9158ab209677a47e4a9287e08b8c9d1ef2b7fe", func := "loop.example/g01175/laws.FnExactParallelSteps", spec := "fnExactParallelSteps", inPlace := ["internal/bytealg.IndexByteString"], unfollowed := true, recurses := true, plainKeys := false, apart := false, narrowed := true }
def FnExactParallelStepsUptoSaid : Prop := fnExactParallelStepsUptoRow.holds Tryz.pinned (OpenSpec.upto fnExactParallelStepsSpec)

/-- 'laws.FnExactInputSteps', WHERE WHAT IT READS IS OF BULK AT MOST 1048576: true; the input reads as it did. -/
def fnExactInputStepsUptoRow : OpenClaim := { program := "ythekamjhgabkjaagreat", sum := "a90c9382ede7423dfe92782dbb9158ab209677a47e4a9287e08b8c9d1ef2b7fe", func := "loop.example/g01175/laws.FnExactInputSteps", spec := "fnExactInputSteps", inPlace := ["internal/bytealg.IndexByteString"], unfollowed := true, recurses := true, plainKeys := false, apart := false, narrowed := true }
def FnExactInputStepsUptoSaid : Prop := fnExactInputStepsUptoRow.holds Tryz.pinned (OpenSpec.upto fnExactInputStepsSpec)

/-- 'laws.FnExactSatisfies', WHERE WHAT IT READS IS OF BULK AT MOST 1048576: true; the input reads as it did. -/
def fnExactSatisfiesUptoRow : OpenClaim := { program := "ythekamjhgabkjaagreat", sum := "a90c9382ede7423dfe92782dbb9158ab209677a47e4a9287e08b8c9d1ef2b7fe", func := "loop.example/g01175/laws.FnExactSatisfies", spec := "fnExactSatisfies", inPlace := ["internal/bytealg.IndexByteString"], unfollowed := true, recurses := true, plainKeys := false, apart := false, narrowed := true }
def FnExactSatisfiesUptoSaid : Prop := fnExactSatisfiesUptoRow.holds Tryz.pinned (OpenSpec.upto fnExactSatisfiesSpec)

/-- 'laws.FnExactOutputSteps', WHERE WHAT IT READS IS OF BULK AT MOST 1048576: true; the input reads as it did. -/
def fnExactOutputStepsUptoRow : OpenClaim := { program := "ythekamjhgabkjaagreat", sum := "a90c9382ede7423dfe92782dbb9158ab209677a47e4a9287e08b8c9d1ef2b7fe", func := "loop.example/g01175/laws.FnExactOutputSteps", spec := "fnExactOutputSteps", inPlace := ["internal/bytealg.IndexByteString"], unfollowed := true, recurses := true, plainKeys := false, apart := false, narrowed := true }
def FnExactOutputStepsUptoSaid : Prop := fnExactOutputStepsUptoRow.holds Tryz.pinned (OpenSpec.upto fnExactOutputStepsSpec)

/-- 'laws.FnExactLabelsOf', WHERE WHAT IT READS IS OF BULK AT MOST 1048576: true; the input reads as it did. -/
def fnExactLabelsOfUptoRow : OpenClaim := { program := "ythekamjhgabkjaagreat", sum := "a90c9382ede7423dfe92782dbb9158ab209677a47e4a9287e08b8c9d1ef2b7fe", func := "loop.example/g01175/laws.FnExactLabelsOf", spec := "fnExactLabelsOf", inPlace := ["internal/bytealg.IndexByteString"], unfollowed := true, recurses := true, plainKeys := false, apart := false, narrowed := true }
def FnExactLabelsOfUptoSaid : Prop := fnExactLabelsOfUptoRow.holds Tryz.pinned (OpenSpec.upto fnExactLabelsOfSpec)

/-- 'laws.FnExactStepsOf', WHERE WHAT IT READS IS OF BULK AT MOST 1048576: true; the input reads as it did. -/
def fnExactStepsOfUptoRow : OpenClaim := { program := "ythekamjhgabkjaagreat", sum := "a90c9382ede7423dfe92782dbb9158ab209677a47e4a9287e08b8c9d1ef2b7fe", func := "loop.example/g01175/laws.FnExactStepsOf", spec := "fnExactStepsOf", inPlace := ["internal/bytealg.IndexByteString"], unfollowed := true, recurses := true, plainKeys := false, apart := false, narrowed := true }
def FnExactStepsOfUptoSaid : Prop := fnExactStepsOfUptoRow.holds Tryz.pinned (OpenSpec.upto fnExactStepsOfSpec)

/-- 'laws.FnExactTracesOf', WHERE WHAT IT READS IS OF BULK AT MOST 1048576: true; the input reads as it did. -/
def fnExactTracesOfUptoRow : OpenClaim := { program := "ythekamjhgabkjaagreat", sum := "a90c9382ede7423dfe92782dbb9158ab209677a47e4a9287e08b8c9d1ef2b7fe", func := "loop.example/g01175/laws.FnExactTracesOf", spec := "fnExactTracesOf", inPlace := ["internal/bytealg.IndexByteString"], unfollowed := true, recurses := true, plainKeys := false, apart := false, narrowed := true }
def FnExactTracesOfUptoSaid : Prop := fnExactTracesOfUptoRow.holds Tryz.pinned (OpenSpec.upto fnExactTracesOfSpec)

end Rows
end Go.Proofs.YthekamjhgabkjaaGreat
