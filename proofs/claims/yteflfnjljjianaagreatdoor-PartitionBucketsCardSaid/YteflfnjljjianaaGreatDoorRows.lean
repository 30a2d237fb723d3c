/-
  NARROWER THAN 'FOR EVERY INPUT', by the rows' own cells (each row's printed sentence says how): PartitionMatchesReference: laid · PartitionMonotone: laid · PartitionGroups: laid · PartitionBuckets: laid · PartitionBounds: laid.
  DERIVED. THE GIVEN ROWS OF THIS SEAT. 5 by the template 'for every input the law returns true; each argument reads behind the call as it read before'; 0 by the template 'total and deterministic' (their statements: YteflfnjljjianaaGreatDoorTotals.lean).
  GIVEN WITH THE SEED: the statements are not yours to turn. If you find one false, say at which input.
  Laid BY PROGRAM, IN A SANDBOX (cutbox-rows.mjs): the forced cells as the released guide's own fill.sh prints them over the translation 0293e90c8cee1139… (all of the seat's roots in one cut). By AI agents, Wed Nov 11 2026. No macro, syntax, notation, axiom, sorry.
-/
import Derived.Test.YteflfnjljjianaaGreatDoorChecked
import GoSem.Claim
import GoSem.ClaimJoined
import GoSem.ClaimMapViews
import Derived.JoinedTies
import Derived.KernelRfl
namespace Go.Proofs.YteflfnjljjianaaGreatDoor
/- THE CELL 'sum', in the pinned program and in every row, IS THE sha256 OF THE DUMP (.gsa) THAT YteflfnjljjianaaGreatDoorProg.lean LOADS. Nothing in Lean hashes anything: it is a label: what it is worth is what the hold of that sum in a sandbox is worth. -/
noncomputable def Tryz.pinned : Pinned := { name := "yteflfnjljjianaagreatdoor", sum := "0293e90c8cee1139f3e51edbea5e8dc2c741fead02a562a76c8282fc74c1744f", checked := Tryz.checked }
namespace Rows
def none {H : Type} : Left H := { results := [], args := [] }

/- WHAT THE LISTED PACKAGE-LEVEL VARIABLES READ AS WHEN THE CALL BEGINS. Each datum BY PROGRAM (the guide's laid-datum.mjs) off the statement by which the dump's own 'gosem.cut.vars' lays the variable. In a bare row this is a premise. The card (YteflfnjljjianaaGreatDoorCards.lean) ties it to the program's text. -/
def laid_chapman_decimal_steps {H : Type} : DataW H := .agg [.lit (.int .i64 1000000), .lit (.int .i64 100000), .lit (.int .i64 10000), .lit (.int .i64 1000), .lit (.int .i64 100), .lit (.int .i64 10), .lit (.int .i64 1)]
def laid_chapman_value_steps {H : Type} : DataW H := .agg [.lit (.int .i64 1000000), .lit (.int .i64 100000), .lit (.int .i64 10000), .lit (.int .i64 1000), .lit (.int .i64 100), .lit (.int .i64 10), .lit (.int .i64 1)]
def laid_chapman_bounds_null {H : Type} : DataW H := .agg [.lit (.int .i64 0), .lit (.int .i64 0), .lit (.string [])]

/-- 'chapmanlaw32.PartitionMatchesReference': WHATEVER THE INPUT: true; the input reads as it did. -/
def partitionMatchesReferenceSpec : ChangeSpec := { name := "partitionMatchesReference", fn := fun _ => fun
  | [d1, d2, d3] => { results := [.lit (.bool true)], args := [d1, d2, d3] }
  | _ => none }
def partitionMatchesReferenceRow : OpenClaim := { program := "yteflfnjljjianaagreatdoor", sum := "0293e90c8cee1139f3e51edbea5e8dc2c741fead02a562a76c8282fc74c1744f", func := "chapman/chapmanlaw32.PartitionMatchesReference", spec := "partitionMatchesReference", inPlace := ["internal/abi.NoEscape", "internal/bytealg.MakeNoZero"], unfollowed := true, recurses := true, named := ["chapman/value.steps", "chapman/decimal.steps"], plainKeys := false, apart := false, laid := [("chapman/decimal.steps", laid_chapman_decimal_steps), ("chapman/value.steps", laid_chapman_value_steps)] }
def PartitionMatchesReferenceSaid : Prop := partitionMatchesReferenceRow.holds Tryz.pinned (OpenSpec.ofChange partitionMatchesReferenceSpec)

/-- ITS FALSE NEIGHBOUR: 'it returns false'. Refute it at one input. -/
def partitionMatchesReferenceWrong : ChangeSpec := { name := "partitionMatchesReference", fn := fun _ => fun
  | [d1, d2, d3] => { results := [.lit (.bool false)], args := [d1, d2, d3] }
  | _ => none }
def PartitionMatchesReferenceWrongFalsely : Prop := partitionMatchesReferenceRow.holds Tryz.pinned (OpenSpec.ofChange partitionMatchesReferenceWrong)

/-- 'chapmanlaw32.PartitionMonotone': WHATEVER THE INPUT: true; the input reads as it did. -/
def partitionMonotoneSpec : ChangeSpec := { name := "partitionMonotone", fn := fun _ => fun
  | [d1, d2, d3] => { results := [.lit (.bool true)], args := [d1, d2, d3] }
  | _ => none }
def partitionMonotoneRow : OpenClaim := { program := "yteflfnjljjianaagreatdoor", sum := "0293e90c8cee1139f3e51edbea5e8dc2c741fead02a562a76c8282fc74c1744f", func := "chapman/chapmanlaw32.PartitionMonotone", spec := "partitionMonotone", inPlace := ["internal/abi.NoEscape", "internal/bytealg.MakeNoZero"], unfollowed := true, recurses := true, named := ["chapman/value.steps", "chapman/decimal.steps"], plainKeys := false, apart := false, laid := [("chapman/decimal.steps", laid_chapman_decimal_steps), ("chapman/value.steps", laid_chapman_value_steps)] }
def PartitionMonotoneSaid : Prop := partitionMonotoneRow.holds Tryz.pinned (OpenSpec.ofChange partitionMonotoneSpec)

/-- ITS FALSE NEIGHBOUR: 'it returns false'. Refute it at one input. -/
def partitionMonotoneWrong : ChangeSpec := { name := "partitionMonotone", fn := fun _ => fun
  | [d1, d2, d3] => { results := [.lit (.bool false)], args := [d1, d2, d3] }
  | _ => none }
def PartitionMonotoneWrongFalsely : Prop := partitionMonotoneRow.holds Tryz.pinned (OpenSpec.ofChange partitionMonotoneWrong)

/-- 'chapmanlaw32.PartitionGroups': WHATEVER THE INPUT: true; the input reads as it did. -/
def partitionGroupsSpec : ChangeSpec := { name := "partitionGroups", fn := fun _ => fun
  | [d1, d2, d3] => { results := [.lit (.bool true)], args := [d1, d2, d3] }
  | _ => none }
def partitionGroupsRow : OpenClaim := { program := "yteflfnjljjianaagreatdoor", sum := "0293e90c8cee1139f3e51edbea5e8dc2c741fead02a562a76c8282fc74c1744f", func := "chapman/chapmanlaw32.PartitionGroups", spec := "partitionGroups", inPlace := ["internal/abi.NoEscape", "internal/bytealg.MakeNoZero"], unfollowed := true, recurses := true, named := ["chapman/value.steps", "chapman/decimal.steps"], plainKeys := false, apart := false, laid := [("chapman/decimal.steps", laid_chapman_decimal_steps), ("chapman/value.steps", laid_chapman_value_steps)] }
def PartitionGroupsSaid : Prop := partitionGroupsRow.holds Tryz.pinned (OpenSpec.ofChange partitionGroupsSpec)

/-- ITS FALSE NEIGHBOUR: 'it returns false'. Refute it at one input. -/
def partitionGroupsWrong : ChangeSpec := { name := "partitionGroups", fn := fun _ => fun
  | [d1, d2, d3] => { results := [.lit (.bool false)], args := [d1, d2, d3] }
  | _ => none }
def PartitionGroupsWrongFalsely : Prop := partitionGroupsRow.holds Tryz.pinned (OpenSpec.ofChange partitionGroupsWrong)

/-- 'chapmanlaw32.PartitionBuckets': WHATEVER THE INPUT: true; the input reads as it did. -/
def partitionBucketsSpec : ChangeSpec := { name := "partitionBuckets", fn := fun _ => fun
  | [d1, d2, d3] => { results := [.lit (.bool true)], args := [d1, d2, d3] }
  | _ => none }
def partitionBucketsRow : OpenClaim := { program := "yteflfnjljjianaagreatdoor", sum := "0293e90c8cee1139f3e51edbea5e8dc2c741fead02a562a76c8282fc74c1744f", func := "chapman/chapmanlaw32.PartitionBuckets", spec := "partitionBuckets", inPlace := ["internal/abi.NoEscape", "internal/bytealg.MakeNoZero"], unfollowed := true, recurses := true, named := ["chapman/value.steps", "chapman/decimal.steps"], plainKeys := false, apart := false, laid := [("chapman/decimal.steps", laid_chapman_decimal_steps), ("chapman/value.steps", laid_chapman_value_steps)] }
def PartitionBucketsSaid : Prop := partitionBucketsRow.holds Tryz.pinned (OpenSpec.ofChange partitionBucketsSpec)

/-- ITS FALSE NEIGHBOUR: 'it returns false'. Refute it at one input. -/
def partitionBucketsWrong : ChangeSpec := { name := "partitionBuckets", fn := fun _ => fun
  | [d1, d2, d3] => { results := [.lit (.bool false)], args := [d1, d2, d3] }
  | _ => none }
def PartitionBucketsWrongFalsely : Prop := partitionBucketsRow.holds Tryz.pinned (OpenSpec.ofChange partitionBucketsWrong)

/-- 'chapmanlaw32.PartitionBounds': WHATEVER THE INPUT: true; the input reads as it did. -/
def partitionBoundsSpec : ChangeSpec := { name := "partitionBounds", fn := fun _ => fun
  | [d1, d2, d3] => { results := [.lit (.bool true)], args := [d1, d2, d3] }
  | _ => none }
def partitionBoundsRow : OpenClaim := { program := "yteflfnjljjianaagreatdoor", sum := "0293e90c8cee1139f3e51edbea5e8dc2c741fead02a562a76c8282fc74c1744f", func := "chapman/chapmanlaw32.PartitionBounds", spec := "partitionBounds", inPlace := ["internal/abi.NoEscape", "internal/bytealg.MakeNoZero"], unfollowed := true, recurses := true, named := ["chapman/value.steps", "chapman/decimal.steps", "chapman/bounds.null"], plainKeys := false, apart := false, laid := [("chapman/decimal.steps", laid_chapman_decimal_steps), ("chapman/value.steps", laid_chapman_value_steps), ("chapman/bounds.null", laid_chapman_bounds_null)] }
def PartitionBoundsSaid : Prop := partitionBoundsRow.holds Tryz.pinned (OpenSpec.ofChange partitionBoundsSpec)

/-- ITS FALSE NEIGHBOUR: 'it returns false'. Refute it at one input. -/
def partitionBoundsWrong : ChangeSpec := { name := "partitionBounds", fn := fun _ => fun
  | [d1, d2, d3] => { results := [.lit (.bool false)], args := [d1, d2, d3] }
  | _ => none }
def PartitionBoundsWrongFalsely : Prop := partitionBoundsRow.holds Tryz.pinned (OpenSpec.ofChange partitionBoundsWrong)

/- THE SECOND FORM. 'bulk': how many values and letters a reading holds, each counted each time it is reached (what is shared counts as often as it is met; a slice's spare places count too). A statement '..UptoSaid' is the law's where the arguments, and the package variables that the reading takes, are together of bulk at most 1048576: NARROWER than '..Said'. Prove '..Said' where nothing that the law and all that it calls make is longer than what came in: it says more and counts as full. Else prove '..UptoSaid'. A law counts once. -/
mutual
def uptoBulk {H : Type} : DataW H → Nat
  | .lit (.string bytes) => bytes.length + 1
  | .lit _ => 1
  | .nil => 1
  | .ptr d => uptoBulk d + 1
  | .slice elems spare => uptoBulkAll elems + uptoBulkAll spare + 1
  | .agg parts => uptoBulkAll parts + 1
  | .iface _ d => uptoBulk d + 1
  | .map entries => uptoBulkEntries entries + 1
  | .held _ => 1
def uptoBulkAll {H : Type} : List (DataW H) → Nat
  | [] => 0
  | d :: r => uptoBulk d + uptoBulkAll r
def uptoBulkEntries {H : Type} : List (Lit × DataW H) → Nat
  | [] => 0
  | x :: r => uptoBulkEntry x + uptoBulkEntries r
def uptoBulkEntry {H : Type} : Lit × DataW H → Nat
  | (.string bytes, d) => bytes.length + uptoBulk d + 1
  | (_, d) => uptoBulk d + 1
 end
def uptoSmall : (H : Type) → List (DataW H) → Bool := fun _ ds => decide (uptoBulkAll ds ≤ 1048576)
def OpenSpec.upto (s : _root_.Go.ChangeSpec) : _root_.Go.OpenSpec := { _root_.Go.OpenSpec.ofChange s with cond := some uptoSmall }

/-- 'chapmanlaw32.PartitionMatchesReference', WHERE WHAT IT READS IS OF BULK AT MOST 1048576: true; the input reads as it did. -/
def partitionMatchesReferenceUptoRow : OpenClaim := { program := "yteflfnjljjianaagreatdoor", sum := "0293e90c8cee1139f3e51edbea5e8dc2c741fead02a562a76c8282fc74c1744f", func := "chapman/chapmanlaw32.PartitionMatchesReference", spec := "partitionMatchesReference", inPlace := ["internal/abi.NoEscape", "internal/bytealg.MakeNoZero"], unfollowed := true, recurses := true, named := ["chapman/value.steps", "chapman/decimal.steps"], plainKeys := false, apart := false, laid := [("chapman/decimal.steps", laid_chapman_decimal_steps), ("chapman/value.steps", laid_chapman_value_steps)], narrowed := true }
def PartitionMatchesReferenceUptoSaid : Prop := partitionMatchesReferenceUptoRow.holds Tryz.pinned (OpenSpec.upto partitionMatchesReferenceSpec)

/-- 'chapmanlaw32.PartitionMonotone', WHERE WHAT IT READS IS OF BULK AT MOST 1048576: true; the input reads as it did. -/
def partitionMonotoneUptoRow : OpenClaim := { program := "yteflfnjljjianaagreatdoor", sum := "0293e90c8cee1139f3e51edbea5e8dc2c741fead02a562a76c8282fc74c1744f", func := "chapman/chapmanlaw32.PartitionMonotone", spec := "partitionMonotone", inPlace := ["internal/abi.NoEscape", "internal/bytealg.MakeNoZero"], unfollowed := true, recurses := true, named := ["chapman/value.steps", "chapman/decimal.steps"], plainKeys := false, apart := false, laid := [("chapman/decimal.steps", laid_chapman_decimal_steps), ("chapman/value.steps", laid_chapman_value_steps)], narrowed := true }
def PartitionMonotoneUptoSaid : Prop := partitionMonotoneUptoRow.holds Tryz.pinned (OpenSpec.upto partitionMonotoneSpec)

/-- 'chapmanlaw32.PartitionGroups', WHERE WHAT IT READS IS OF BULK AT MOST 1048576: true; the input reads as it did. -/
def partitionGroupsUptoRow : OpenClaim := { program := "yteflfnjljjianaagreatdoor", sum := "0293e90c8cee1139f3e51edbea5e8dc2c741fead02a562a76c8282fc74c1744f", func := "chapman/chapmanlaw32.PartitionGroups", spec := "partitionGroups", inPlace := ["internal/abi.NoEscape", "internal/bytealg.MakeNoZero"], unfollowed := true, recurses := true, named := ["chapman/value.steps", "chapman/decimal.steps"], plainKeys := false, apart := false, laid := [("chapman/decimal.steps", laid_chapman_decimal_steps), ("chapman/value.steps", laid_chapman_value_steps)], narrowed := true }
def PartitionGroupsUptoSaid : Prop := partitionGroupsUptoRow.holds Tryz.pinned (OpenSpec.upto partitionGroupsSpec)

/-- 'chapmanlaw32.PartitionBuckets', WHERE WHAT IT READS IS OF BULK AT MOST 1048576: true; the input reads as it did. -/
def partitionBucketsUptoRow : OpenClaim := { program := "yteflfnjljjianaagreatdoor", sum := "0293e90c8cee1139f3e51edbea5e8dc2c741fead02a562a76c8282fc74c1744f", func := "chapman/chapmanlaw32.PartitionBuckets", spec := "partitionBuckets", inPlace := ["internal/abi.NoEscape", "internal/bytealg.MakeNoZero"], unfollowed := true, recurses := true, named := ["chapman/value.steps", "chapman/decimal.steps"], plainKeys := false, apart := false, laid := [("chapman/decimal.steps", laid_chapman_decimal_steps), ("chapman/value.steps", laid_chapman_value_steps)], narrowed := true }
def PartitionBucketsUptoSaid : Prop := partitionBucketsUptoRow.holds Tryz.pinned (OpenSpec.upto partitionBucketsSpec)

/-- 'chapmanlaw32.PartitionBounds', WHERE WHAT IT READS IS OF BULK AT MOST 1048576: true; the input reads as it did. -/
def partitionBoundsUptoRow : OpenClaim := { program := "yteflfnjljjianaagreatdoor", sum := "0293e90c8cee1139f3e51edbea5e8dc2c741fead02a562a76c8282fc74c1744f", func := "chapman/chapmanlaw32.PartitionBounds", spec := "partitionBounds", inPlace := ["internal/abi.NoEscape", "internal/bytealg.MakeNoZero"], unfollowed := true, recurses := true, named := ["chapman/value.steps", "chapman/decimal.steps", "chapman/bounds.null"], plainKeys := false, apart := false, laid := [("chapman/decimal.steps", laid_chapman_decimal_steps), ("chapman/value.steps", laid_chapman_value_steps), ("chapman/bounds.null", laid_chapman_bounds_null)], narrowed := true }
def PartitionBoundsUptoSaid : Prop := partitionBoundsUptoRow.holds Tryz.pinned (OpenSpec.upto partitionBoundsSpec)

end Rows
end Go.Proofs.YteflfnjljjianaaGreatDoor
