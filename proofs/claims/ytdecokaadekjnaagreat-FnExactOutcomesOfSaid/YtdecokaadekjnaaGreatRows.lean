/-
  No cell of these rows narrows 'for every input' (looked for: loops, veiled, ifaces, maps, wideKeys, modest, calm, conditions, laid).
  DERIVED. THE GIVEN ROWS OF THIS SEAT. 10 by the template 'for every input the law returns true; each argument reads behind the call as it read before'; 0 by the template 'total and deterministic' (their statements: YtdecokaadekjnaaGreatTotals.lean).
  GIVEN WITH THE SEED: the statements are not yours to turn. If you find one false, say at which input.
  Laid BY PROGRAM, IN A SANDBOX (cutbox-rows.mjs): the forced cells as the released guide's own fill.sh prints them over the translation ef5cf8851dc82a9d… (all of the seat's roots in one cut). By AI agents, Wed Nov 11 2026. No macro, syntax, notation, axiom, sorry.
-/
import Derived.Test.YtdecokaadekjnaaGreatChecked
import GoSem.Claim
import GoSem.ClaimJoined
import GoSem.ClaimMapViews
import Derived.JoinedTies
import Derived.KernelRfl
namespace Go.Proofs.YtdecokaadekjnaaGreat
/- THE CELL 'sum', in the pinned program and in every row, IS THE sha256 OF THE DUMP (.gsa) THAT YtdecokaadekjnaaGreatProg.lean LOADS. Nothing in Lean hashes anything: it is a label: what it is worth is what the hold of that sum in a sandbox is worth. -/
noncomputable def Tryz.pinned : Pinned := { name := "ytdecokaadekjnaagreat", sum := "ef5cf8851dc82a9dcd09062d98bc88250707ea01f745fa02549fc78cf0cd75ff", checked := Tryz.checked }
namespace Rows
def none {H : Type} : Left H := { results := [], args := [] }

/-- 'laws.FnExactMayPass': WHATEVER THE INPUT: true; the input reads as it did. -/
def fnExactMayPassSpec : ChangeSpec := { name := "fnExactMayPass", fn := fun _ => fun
  | [d1, d2] => { results := [.lit (.bool true)], args := [d1, d2] }
  | _ => none }
def fnExactMayPassRow : OpenClaim := { program := "ytdecokaadekjnaagreat", sum := "ef5cf8851dc82a9dcd09062d98bc88250707ea01f745fa02549fc78cf0cd75ff", func := "loop.example/g01175/laws.FnExactMayPass", spec := "fnExactMayPass", inPlace := ["internal/bytealg.IndexByteString"], unfollowed := true, recurses := true, plainKeys := false, apart := false }
def FnExactMayPassSaid : Prop := fnExactMayPassRow.holds Tryz.pinned (OpenSpec.ofChange fnExactMayPassSpec)

/-- ITS FALSE NEIGHBOUR: 'it returns false'. Refute it at one input. -/
def fnExactMayPassWrong : ChangeSpec := { name := "fnExactMayPass", fn := fun _ => fun
  | [d1, d2] => { results := [.lit (.bool false)], args := [d1, d2] }
  | _ => none }
def FnExactMayPassWrongFalsely : Prop := fnExactMayPassRow.holds Tryz.pinned (OpenSpec.ofChange fnExactMayPassWrong)

/-- 'laws.FnExactMustPass': WHATEVER THE INPUT: true; the input reads as it did. -/
def fnExactMustPassSpec : ChangeSpec := { name := "fnExactMustPass", fn := fun _ => fun
  | [d1, d2] => { results := [.lit (.bool true)], args := [d1, d2] }
  | _ => none }
def fnExactMustPassRow : OpenClaim := { program := "ytdecokaadekjnaagreat", sum := "ef5cf8851dc82a9dcd09062d98bc88250707ea01f745fa02549fc78cf0cd75ff", func := "loop.example/g01175/laws.FnExactMustPass", spec := "fnExactMustPass", inPlace := ["internal/bytealg.IndexByteString"], unfollowed := true, recurses := true, plainKeys := false, apart := false }
def FnExactMustPassSaid : Prop := fnExactMustPassRow.holds Tryz.pinned (OpenSpec.ofChange fnExactMustPassSpec)

/-- ITS FALSE NEIGHBOUR: 'it returns false'. Refute it at one input. -/
def fnExactMustPassWrong : ChangeSpec := { name := "fnExactMustPass", fn := fun _ => fun
  | [d1, d2] => { results := [.lit (.bool false)], args := [d1, d2] }
  | _ => none }
def FnExactMustPassWrongFalsely : Prop := fnExactMustPassRow.holds Tryz.pinned (OpenSpec.ofChange fnExactMustPassWrong)

/-- 'laws.FnExactOutcomesOf': WHATEVER THE INPUT: true; the input reads as it did. -/
def fnExactOutcomesOfSpec : ChangeSpec := { name := "fnExactOutcomesOf", fn := fun _ => fun
  | [d] => { results := [.lit (.bool true)], args := [d] }
  | _ => none }
def fnExactOutcomesOfRow : OpenClaim := { program := "ytdecokaadekjnaagreat", sum := "ef5cf8851dc82a9dcd09062d98bc88250707ea01f745fa02549fc78cf0cd75ff", func := "loop.example/g01175/laws.FnExactOutcomesOf", spec := "fnExactOutcomesOf", inPlace := ["internal/bytealg.IndexByteString"], unfollowed := true, recurses := true, plainKeys := false, apart := false }
def FnExactOutcomesOfSaid : Prop := fnExactOutcomesOfRow.holds Tryz.pinned (OpenSpec.ofChange fnExactOutcomesOfSpec)

/-- ITS FALSE NEIGHBOUR: 'it returns false'. Refute it at one input. -/
def fnExactOutcomesOfWrong : ChangeSpec := { name := "fnExactOutcomesOf", fn := fun _ => fun
  | [d] => { results := [.lit (.bool false)], args := [d] }
  | _ => none }
def FnExactOutcomesOfWrongFalsely : Prop := fnExactOutcomesOfRow.holds Tryz.pinned (OpenSpec.ofChange fnExactOutcomesOfWrong)

/-- 'laws.FnExactFirstBarb': WHATEVER THE INPUT: true; the input reads as it did. -/
def fnExactFirstBarbSpec : ChangeSpec := { name := "fnExactFirstBarb", fn := fun _ => fun
  | [d1, d2] => { results := [.lit (.bool true)], args := [d1, d2] }
  | _ => none }
def fnExactFirstBarbRow : OpenClaim := { program := "ytdecokaadekjnaagreat", sum := "ef5cf8851dc82a9dcd09062d98bc88250707ea01f745fa02549fc78cf0cd75ff", func := "loop.example/g01175/laws.FnExactFirstBarb", spec := "fnExactFirstBarb", inPlace := ["internal/bytealg.IndexByteString"], unfollowed := true, recurses := true, plainKeys := false, apart := false }
def FnExactFirstBarbSaid : Prop := fnExactFirstBarbRow.holds Tryz.pinned (OpenSpec.ofChange fnExactFirstBarbSpec)

/-- ITS FALSE NEIGHBOUR: 'it returns false'. Refute it at one input. -/
def fnExactFirstBarbWrong : ChangeSpec := { name := "fnExactFirstBarb", fn := fun _ => fun
  | [d1, d2] => { results := [.lit (.bool false)], args := [d1, d2] }
  | _ => none }
def FnExactFirstBarbWrongFalsely : Prop := fnExactFirstBarbRow.holds Tryz.pinned (OpenSpec.ofChange fnExactFirstBarbWrong)

/-- 'laws.FnExactRunWithoutPass': WHATEVER THE INPUT: true; the input reads as it did. -/
def fnExactRunWithoutPassSpec : ChangeSpec := { name := "fnExactRunWithoutPass", fn := fun _ => fun
  | [d1, d2] => { results := [.lit (.bool true)], args := [d1, d2] }
  | _ => none }
def fnExactRunWithoutPassRow : OpenClaim := { program := "ytdecokaadekjnaagreat", sum := "ef5cf8851dc82a9dcd09062d98bc88250707ea01f745fa02549fc78cf0cd75ff", func := "loop.example/g01175/laws.FnExactRunWithoutPass", spec := "fnExactRunWithoutPass", inPlace := ["internal/bytealg.IndexByteString"], unfollowed := true, recurses := true, plainKeys := false, apart := false }
def FnExactRunWithoutPassSaid : Prop := fnExactRunWithoutPassRow.holds Tryz.pinned (OpenSpec.ofChange fnExactRunWithoutPassSpec)

/-- ITS FALSE NEIGHBOUR: 'it returns false'. Refute it at one input. -/
def fnExactRunWithoutPassWrong : ChangeSpec := { name := "fnExactRunWithoutPass", fn := fun _ => fun
  | [d1, d2] => { results := [.lit (.bool false)], args := [d1, d2] }
  | _ => none }
def FnExactRunWithoutPassWrongFalsely : Prop := fnExactRunWithoutPassRow.holds Tryz.pinned (OpenSpec.ofChange fnExactRunWithoutPassWrong)

/-- 'laws.FnExactAreWeaklyAlike': WHATEVER THE INPUT: true; the input reads as it did. -/
def fnExactAreWeaklyAlikeSpec : ChangeSpec := { name := "fnExactAreWeaklyAlike", fn := fun _ => fun
  | [d1, d2] => { results := [.lit (.bool true)], args := [d1, d2] }
  | _ => none }
def fnExactAreWeaklyAlikeRow : OpenClaim := { program := "ytdecokaadekjnaagreat", sum := "ef5cf8851dc82a9dcd09062d98bc88250707ea01f745fa02549fc78cf0cd75ff", func := "loop.example/g01175/laws.FnExactAreWeaklyAlike", spec := "fnExactAreWeaklyAlike", inPlace := ["internal/bytealg.IndexByteString"], unfollowed := true, recurses := true, plainKeys := false, apart := false }
def FnExactAreWeaklyAlikeSaid : Prop := fnExactAreWeaklyAlikeRow.holds Tryz.pinned (OpenSpec.ofChange fnExactAreWeaklyAlikeSpec)

/-- ITS FALSE NEIGHBOUR: 'it returns false'. Refute it at one input. -/
def fnExactAreWeaklyAlikeWrong : ChangeSpec := { name := "fnExactAreWeaklyAlike", fn := fun _ => fun
  | [d1, d2] => { results := [.lit (.bool false)], args := [d1, d2] }
  | _ => none }
def FnExactAreWeaklyAlikeWrongFalsely : Prop := fnExactAreWeaklyAlikeRow.holds Tryz.pinned (OpenSpec.ofChange fnExactAreWeaklyAlikeWrong)

/-- 'laws.FnExactWeakDepth': WHATEVER THE INPUT: true; the input reads as it did. -/
def fnExactWeakDepthSpec : ChangeSpec := { name := "fnExactWeakDepth", fn := fun _ => fun
  | [d1, d2] => { results := [.lit (.bool true)], args := [d1, d2] }
  | _ => none }
def fnExactWeakDepthRow : OpenClaim := { program := "ytdecokaadekjnaagreat", sum := "ef5cf8851dc82a9dcd09062d98bc88250707ea01f745fa02549fc78cf0cd75ff", func := "loop.example/g01175/laws.FnExactWeakDepth", spec := "fnExactWeakDepth", inPlace := ["internal/bytealg.IndexByteString"], unfollowed := true, recurses := true, plainKeys := false, apart := false }
def FnExactWeakDepthSaid : Prop := fnExactWeakDepthRow.holds Tryz.pinned (OpenSpec.ofChange fnExactWeakDepthSpec)

/-- ITS FALSE NEIGHBOUR: 'it returns false'. Refute it at one input. -/
def fnExactWeakDepthWrong : ChangeSpec := { name := "fnExactWeakDepth", fn := fun _ => fun
  | [d1, d2] => { results := [.lit (.bool false)], args := [d1, d2] }
  | _ => none }
def FnExactWeakDepthWrongFalsely : Prop := fnExactWeakDepthRow.holds Tryz.pinned (OpenSpec.ofChange fnExactWeakDepthWrong)

/-- 'laws.FnExactPassedTests': WHATEVER THE INPUT: true; the input reads as it did. -/
def fnExactPassedTestsSpec : ChangeSpec := { name := "fnExactPassedTests", fn := fun _ => fun
  | [d1, d2] => { results := [.lit (.bool true)], args := [d1, d2] }
  | _ => none }
def fnExactPassedTestsRow : OpenClaim := { program := "ytdecokaadekjnaagreat", sum := "ef5cf8851dc82a9dcd09062d98bc88250707ea01f745fa02549fc78cf0cd75ff", func := "loop.example/g01175/laws.FnExactPassedTests", spec := "fnExactPassedTests", inPlace := ["internal/bytealg.IndexByteString"], unfollowed := true, recurses := true, plainKeys := false, apart := false }
def FnExactPassedTestsSaid : Prop := fnExactPassedTestsRow.holds Tryz.pinned (OpenSpec.ofChange fnExactPassedTestsSpec)

/-- ITS FALSE NEIGHBOUR: 'it returns false'. Refute it at one input. -/
def fnExactPassedTestsWrong : ChangeSpec := { name := "fnExactPassedTests", fn := fun _ => fun
  | [d1, d2] => { results := [.lit (.bool false)], args := [d1, d2] }
  | _ => none }
def FnExactPassedTestsWrongFalsely : Prop := fnExactPassedTestsRow.holds Tryz.pinned (OpenSpec.ofChange fnExactPassedTestsWrong)

/-- 'laws.FnExactWeakClasses': WHATEVER THE INPUT: true; the input reads as it did. -/
def fnExactWeakClassesSpec : ChangeSpec := { name := "fnExactWeakClasses", fn := fun _ => fun
  | [d] => { results := [.lit (.bool true)], args := [d] }
  | _ => none }
def fnExactWeakClassesRow : OpenClaim := { program := "ytdecokaadekjnaagreat", sum := "ef5cf8851dc82a9dcd09062d98bc88250707ea01f745fa02549fc78cf0cd75ff", func := "loop.example/g01175/laws.FnExactWeakClasses", spec := "fnExactWeakClasses", inPlace := ["internal/bytealg.IndexByteString"], unfollowed := true, recurses := true, plainKeys := false, apart := false }
def FnExactWeakClassesSaid : Prop := fnExactWeakClassesRow.holds Tryz.pinned (OpenSpec.ofChange fnExactWeakClassesSpec)

/-- ITS FALSE NEIGHBOUR: 'it returns false'. Refute it at one input. -/
def fnExactWeakClassesWrong : ChangeSpec := { name := "fnExactWeakClasses", fn := fun _ => fun
  | [d] => { results := [.lit (.bool false)], args := [d] }
  | _ => none }
def FnExactWeakClassesWrongFalsely : Prop := fnExactWeakClassesRow.holds Tryz.pinned (OpenSpec.ofChange fnExactWeakClassesWrong)

/-- 'laws.FnExactTruthOf': WHATEVER THE INPUT: true; the input reads as it did. -/
def fnExactTruthOfSpec : ChangeSpec := { name := "fnExactTruthOf", fn := fun _ => fun
  | [d1, d2] => { results := [.lit (.bool true)], args := [d1, d2] }
  | _ => none }
def fnExactTruthOfRow : OpenClaim := { program := "ytdecokaadekjnaagreat", sum := "ef5cf8851dc82a9dcd09062d98bc88250707ea01f745fa02549fc78cf0cd75ff", func := "loop.example/g01175/laws.FnExactTruthOf", spec := "fnExactTruthOf", inPlace := ["internal/bytealg.IndexByteString", "internal/abi.NoEscape", "internal/bytealg.MakeNoZero", "internal/bytealg.IndexString"], unfollowed := true, recurses := true, named := ["internal/bytealg.MaxLen"], plainKeys := false, apart := false }
def FnExactTruthOfSaid : Prop := fnExactTruthOfRow.holds Tryz.pinned (OpenSpec.ofChange fnExactTruthOfSpec)

/-- ITS FALSE NEIGHBOUR: 'it returns false'. Refute it at one input. -/
def fnExactTruthOfWrong : ChangeSpec := { name := "fnExactTruthOf", fn := fun _ => fun
  | [d1, d2] => { results := [.lit (.bool false)], args := [d1, d2] }
  | _ => none }
def FnExactTruthOfWrongFalsely : Prop := fnExactTruthOfRow.holds Tryz.pinned (OpenSpec.ofChange fnExactTruthOfWrong)

/- THE SECOND FORM. 'bulk': how many values and letters a reading holds, each counted each time it is reached (what is shared counts as often as it is met; a slice's spare places count too). A statement '..UptoSaid' is the law's where the arguments, and the package variables that the reading takes, are together of bulk at most 1048576: NARROWER than '..Said'. Prove '..Said' where nothing that the law and all that it calls make is longer than what came in: it says more and counts as full. Else prove '..UptoSaid'. A law counts once. -/
mutual
def uptoBulk {H : Type} : DataW H → Nat
  | .lit (.string bytes) => bytes.length + 1
  | .lit _ => 1
  | .nil => 1
  | .ptr d => uptoBulk d + 1
  | .slice elems spare => uptoBulkAll elems + uptoBulkAll spare + 1
  | .agg parts => uptoBulkAll parts + 1
  | .iface _ d => uptoBulk d + 1
  | .map entries => uptoBulkEntries entries + 1
  | .held _ => 1
def uptoBulkAll {H : Type} : List (DataW H) → Nat
  | [] => 0
  | d :: r => uptoBulk d + uptoBulkAll r
def uptoBulkEntries {H : Type} : List (Lit × DataW H) → Nat
  | [] => 0
  | x :: r => uptoBulkEntry x + uptoBulkEntries r
def uptoBulkEntry {H : Type} : Lit × DataW H → Nat
  | (.string bytes, d) => bytes.length + uptoBulk d + 1
  | (_, d) => uptoBulk d + 1
 end
def uptoSmall : (H : Type) → List (DataW H) → Bool := fun _ ds => decide (uptoBulkAll ds ≤ 1048576)
def OpenSpec.upto (s : _root_.Go.ChangeSpec) : _root_.Go.OpenSpec := { _root_.Go.OpenSpec.ofChange s with cond := some uptoSmall }

/-- 'laws.FnExactMayPass', WHERE WHAT IT READS IS OF BULK AT MOST 1048576: true; the input reads as it did. -/
def fnExactMayPassUptoRow : OpenClaim := { program := "ytdecokaadekjnaagreat", sum := "ef5cf8851dc82a9dcd09062d98bc88250707ea01f745fa02549fc78cf0cd75ff", func := "loop.example/g01175/laws.FnExactMayPass", spec := "fnExactMayPass", inPlace := ["internal/bytealg.IndexByteString"], unfollowed := true, recurses := true, plainKeys := false, apart := false, narrowed := true }
def FnExactMayPassUptoSaid : Prop := fnExactMayPassUptoRow.holds Tryz.pinned (OpenSpec.upto fnExactMayPassSpec)

/-- 'laws.FnExactMustPass', WHERE WHAT IT READS IS OF BULK AT MOST 1048576: true; the input reads as it did. -/
def fnExactMustPassUptoRow : OpenClaim := { program := "ytdecokaadekjnaagreat", sum := "ef5cf8851dc82a9dcd09062d98bc88250707ea01f745fa02549fc78cf0cd75ff", func := "loop.example/g01175/laws.FnExactMustPass", spec := "fnExactMustPass", inPlace := ["internal/bytealg.IndexByteString"], unfollowed := true, recurses := true, plainKeys := false, apart := false, narrowed := true }
def FnExactMustPassUptoSaid : Prop := fnExactMustPassUptoRow.holds Tryz.pinned (OpenSpec.upto fnExactMustPassSpec)

/-- 'laws.FnExactOutcomesOf', WHERE WHAT IT READS IS OF BULK AT MOST 1048576: true; the input reads as it did. -/
def fnExactOutcomesOfUptoRow : OpenClaim := { program := "ytdecokaadekjnaagreat", sum := "ef5cf8851dc82a9dcd09062d98bc88250707ea01f745fa02549fc78cf0cd75ff", func := "loop.example/g01175/laws.FnExactOutcomesOf", spec := "fnExactOutcomesOf", inPlace := ["internal/bytealg.IndexByteString"], unfollowed := true, recurses := true, plainKeys := false, apart := false, narrowed := true }
def FnExactOutcomesOfUptoSaid : Prop := fnExactOutcomesOfUptoRow.holds Tryz.pinned (OpenSpec.upto fnExactOutcomesOfSpec)

/-- 'laws.FnExactFirstBarb', WHERE WHAT IT READS IS OF BULK AT MOST 1048576: true; the input reads as it did. -/
def fnExactFirstBarbUptoRow : OpenClaim := { program := "ytdecokaadekjnaagreat", sum := "ef5cf8851dc82a9dcd09062d98bc88250707ea01f745fa02549fc78cf0cd75ff", func := "loop.example/g01175/laws.FnExactFirstBarb", spec := "fnExactFirstBarb", inPlace := ["internal/bytealg.IndexByteString"], unfollowed := true, recurses := true, plainKeys := false, apart := false, narrowed := true }
def FnExactFirstBarbUptoSaid : Prop := fnExactFirstBarbUptoRow.holds Tryz.pinned (OpenSpec.upto fnExactFirstBarbSpec)

/-- 'laws.FnExactRunWithoutPass', WHERE WHAT IT READS IS OF BULK AT MOST 1048576: true; the input reads as it did. -/
def fnExactRunWithoutPassUptoRow : OpenClaim := { program := "ytdecokaadekjnaagreat", sum := "ef5cf8851dc82a9dcd09062d98bc88250707ea01f745fa02549fc78cf0cd75ff", func := "loop.example/g01175/laws.FnExactRunWithoutPass", spec := "fnExactRunWithoutPass", inPlace := ["internal/bytealg.IndexByteString"], unfollowed := true, recurses := true, plainKeys := false, apart := false, narrowed := true }
def FnExactRunWithoutPassUptoSaid : Prop := fnExactRunWithoutPassUptoRow.holds Tryz.pinned (OpenSpec.upto fnExactRunWithoutPassSpec)

/-- 'laws.FnExactAreWeaklyAlike', WHERE WHAT IT READS IS OF BULK AT MOST 1048576: true; the input reads as it did. -/
def fnExactAreWeaklyAlikeUptoRow : OpenClaim := { program := "ytdecokaadekjnaagreat", sum := "ef5cf8851dc82a9dcd09062d98bc88250707ea01f745fa02549fc78cf0cd75ff", func := "loop.example/g01175/laws.FnExactAreWeaklyAlike", spec := "fnExactAreWeaklyAlike", inPlace := ["internal/bytealg.IndexByteString"], unfollowed := true, recurses := true, plainKeys := false, apart := false, narrowed := true }
def FnExactAreWeaklyAlikeUptoSaid : Prop := fnExactAreWeaklyAlikeUptoRow.holds Tryz.pinned (OpenSpec.upto fnExactAreWeaklyAlikeSpec)

/-- 'laws.FnExactWeakDepth', WHERE WHAT IT READS IS OF BULK AT MOST 1048576: true; the input reads as it did. -/
def fnExactWeakDepthUptoRow : OpenClaim := { program := "ytdecokaadekjnaagreat", sum := "ef5cf8851dc82a9dcd09062d98bc88250707ea01f745fa02549fc78cf0cd75ff", func := "loop.example/g01175/laws.FnExactWeakDepth", spec := "fnExactWeakDepth", inPlace := ["internal/bytealg.IndexByteString"], unfollowed := true, recurses := true, plainKeys := false, apart := false, narrowed := true }
def FnExactWeakDepthUptoSaid : Prop := fnExactWeakDepthUptoRow.holds Tryz.pinned (OpenSpec.upto fnExactWeakDepthSpec)

/-- 'laws.FnExactPassedTests', WHERE WHAT IT READS IS OF BULK AT MOST 1048576: true; the input reads as it did. -/
def fnExactPassedTestsUptoRow : OpenClaim := { program := "ytdecokaadekjnaagreat", sum := "ef5cf8851dc82a9dcd09062d98bc88250707ea01f745fa02549fc78cf0cd75ff", func := "loop.example/g01175/laws.FnExactPassedTests", spec := "fnExactPassedTests", inPlace := ["internal/bytealg.IndexByteString"], unfollowed := true, recurses := true, plainKeys := false, apart := false, narrowed := true }
def FnExactPassedTestsUptoSaid : Prop := fnExactPassedTestsUptoRow.holds Tryz.pinned (OpenSpec.upto fnExactPassedTestsSpec)

/-- 'laws.FnExactWeakClasses', WHERE WHAT IT READS IS OF BULK AT MOST 1048576: true; the input reads as it did. -/
def fnExactWeakClassesUptoRow : OpenClaim := { program := "ytdecokaadekjnaagreat", sum := "ef5cf8851dc82a9dcd09062d98bc88250707ea01f745fa02549fc78cf0cd75ff", func := "loop.example/g01175/laws.FnExactWeakClasses", spec := "fnExactWeakClasses", inPlace := ["internal/bytealg.IndexByteString"], unfollowed := true, recurses := true, plainKeys := false, apart := false, narrowed := true }
def FnExactWeakClassesUptoSaid : Prop := fnExactWeakClassesUptoRow.holds Tryz.pinned (OpenSpec.upto fnExactWeakClassesSpec)

/-- 'laws.FnExactTruthOf', WHERE WHAT IT READS IS OF BULK AT MOST 1048576: true; the input reads as it did. -/
def fnExactTruthOfUptoRow : OpenClaim := { program := "ytdecokaadekjnaagreat", sum := "ef5cf8851dc82a9dcd09062d98bc88250707ea01f745fa02549fc78cf0cd75ff", func := "loop.example/g01175/laws.FnExactTruthOf", spec := "fnExactTruthOf", inPlace := ["internal/bytealg.IndexByteString", "internal/abi.NoEscape", "internal/bytealg.MakeNoZero", "internal/bytealg.IndexString"], unfollowed := true, recurses := true, named := ["internal/bytealg.MaxLen"], plainKeys := false, apart := false, narrowed := true }
def FnExactTruthOfUptoSaid : Prop := fnExactTruthOfUptoRow.holds Tryz.pinned (OpenSpec.upto fnExactTruthOfSpec)

end Rows
end Go.Proofs.YtdecokaadekjnaaGreat
