/-
  DERIVED. GIVEN WITH THE SEED: THE PROGRAM's TIES (one call each: nine closed facts by the kernel) AND EACH ROW's TIE, after the 31st guide's Derived/Test/Toyas{Tie, Card}.lean. No idea stands in it: it is a product of the set-up. Laid BY PROGRAM, IN A SANDBOX (cutbox-door.mjs). By AI agents, Wed Nov 11 2026. No macro, syntax, notation, axiom, sorry.
-/
import Derived.Test.YteflfnjljjianaaGreatDoorRows
import Derived.LaidByTextLater
import Derived.SevenTiedAt
import Derived.LaidSub
import Derived.LaidOnce
namespace Go.Proofs.YteflfnjljjianaaGreatDoor
open Go
set_option maxRecDepth 100000
theorem seatTie1 : Tryz.prog.laidByTextLater [("chapman/decimal.steps", Rows.laid_chapman_decimal_steps), ("chapman/value.steps", Rows.laid_chapman_value_steps), ("chapman/bounds.null", Rows.laid_chapman_bounds_null)] [.data, .data, .data] true :=
  Program.laidByTextLater_by_one 24 8 8 (by kernel_rfl) (by kernel_rfl) (by kernel_rfl) (by kernel_rfl) (by kernel_rfl) (by kernel_rfl) (fun _ _ => by kernel_rfl)
theorem noOwnUnsafe : Tryz.pinned.checked.prog.headLifts.contains "ownunsafe" = false := by kernel_rfl
theorem tie : Tryz.prog.laidByTextLater [("chapman/decimal.steps", Rows.laid_chapman_decimal_steps), ("chapman/value.steps", Rows.laid_chapman_value_steps)] [.data, .data] true :=
  Program.laidByTextLater.sub seatTie1 ["chapman/decimal.steps", "chapman/value.steps"] (by kernel_rfl) (by kernel_rfl)
theorem partitionMatchesReference_row_tie : Rows.partitionMatchesReferenceRow.laidByTextAt .later Tryz.pinned [.data, .data] true :=
  OpenClaim.laidByTextAt_later rfl rfl tie noOwnUnsafe
theorem partitionMonotone_row_tie : Rows.partitionMonotoneRow.laidByTextAt .later Tryz.pinned [.data, .data] true :=
  OpenClaim.laidByTextAt_later rfl rfl tie noOwnUnsafe
theorem partitionGroups_row_tie : Rows.partitionGroupsRow.laidByTextAt .later Tryz.pinned [.data, .data] true :=
  OpenClaim.laidByTextAt_later rfl rfl tie noOwnUnsafe
theorem partitionBuckets_row_tie : Rows.partitionBucketsRow.laidByTextAt .later Tryz.pinned [.data, .data] true :=
  OpenClaim.laidByTextAt_later rfl rfl tie noOwnUnsafe
theorem tie2 : Tryz.prog.laidByTextLater [("chapman/decimal.steps", Rows.laid_chapman_decimal_steps), ("chapman/value.steps", Rows.laid_chapman_value_steps), ("chapman/bounds.null", Rows.laid_chapman_bounds_null)] [.data, .data, .data] true :=
  Program.laidByTextLater.sub seatTie1 ["chapman/decimal.steps", "chapman/value.steps", "chapman/bounds.null"] (by kernel_rfl) (by kernel_rfl)
theorem partitionBounds_row_tie : Rows.partitionBoundsRow.laidByTextAt .later Tryz.pinned [.data, .data, .data] true :=
  OpenClaim.laidByTextAt_later rfl rfl tie2 noOwnUnsafe
theorem partitionMatchesReferenceUpto_row_tie : Rows.partitionMatchesReferenceUptoRow.laidByTextAt .later Tryz.pinned [.data, .data] true :=
  OpenClaim.laidByTextAt_later rfl rfl tie noOwnUnsafe
theorem partitionMonotoneUpto_row_tie : Rows.partitionMonotoneUptoRow.laidByTextAt .later Tryz.pinned [.data, .data] true :=
  OpenClaim.laidByTextAt_later rfl rfl tie noOwnUnsafe
theorem partitionGroupsUpto_row_tie : Rows.partitionGroupsUptoRow.laidByTextAt .later Tryz.pinned [.data, .data] true :=
  OpenClaim.laidByTextAt_later rfl rfl tie noOwnUnsafe
theorem partitionBucketsUpto_row_tie : Rows.partitionBucketsUptoRow.laidByTextAt .later Tryz.pinned [.data, .data] true :=
  OpenClaim.laidByTextAt_later rfl rfl tie noOwnUnsafe
theorem partitionBoundsUpto_row_tie : Rows.partitionBoundsUptoRow.laidByTextAt .later Tryz.pinned [.data, .data, .data] true :=
  OpenClaim.laidByTextAt_later rfl rfl tie2 noOwnUnsafe
end Go.Proofs.YteflfnjljjianaaGreatDoor
