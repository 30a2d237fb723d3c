/-
  DERIVED. GIVEN WITH THE SEED: THE CARDS: each row of YteflfnjljjianaaGreatDoorRows.lean that lists a variable, with what it lists TIED to the program's text (the seventh form; the later family's looks); each row that meets fmt, with fmt's text TOLD by the authors' own Lean function (tested against real Go, not proved from fmt's source: count such statements apart). THE CARD IS WHAT COUNTS. Prove the row's statement (the work); the ties are given (YteflfnjljjianaaGreatDoorTie.lean); close each card by the builder's one call (the guide's Derived/Test/ToyasCard.lean, 'card_holds'). Laid BY PROGRAM, IN A SANDBOX (cutbox-door.mjs). By AI agents, Wed Nov 11 2026. No macro, syntax, notation, axiom, sorry.
-/
import Derived.Test.YteflfnjljjianaaGreatDoorRows
import GoSem.ClaimSeven
namespace Go.Proofs.YteflfnjljjianaaGreatDoor
namespace Rows

/-- THE TIED CARD OF 'chapmanlaw32.PartitionMatchesReference'. -/
def partitionMatchesReferenceCard : Claim7 := { stood := { row := partitionMatchesReferenceRow, standIns := [], harness := (true, "ce419de17c798dc981aef98fc54f8a5232ef72c256b58cd68ef6717b0c115c19"), looks := false }, kinds := [], alts := [], laidByText := true, laidKinds := [.data, .data], laidTests := true, laidLooks := .later }
def PartitionMatchesReferenceCardSaid : Prop := Claim7.holds Tryz.pinned (.plain (OpenSpec.ofChange partitionMatchesReferenceSpec)) partitionMatchesReferenceCard

/-- THE TIED CARD OF 'chapmanlaw32.PartitionMonotone'. -/
def partitionMonotoneCard : Claim7 := { stood := { row := partitionMonotoneRow, standIns := [], harness := (true, "ce419de17c798dc981aef98fc54f8a5232ef72c256b58cd68ef6717b0c115c19"), looks := false }, kinds := [], alts := [], laidByText := true, laidKinds := [.data, .data], laidTests := true, laidLooks := .later }
def PartitionMonotoneCardSaid : Prop := Claim7.holds Tryz.pinned (.plain (OpenSpec.ofChange partitionMonotoneSpec)) partitionMonotoneCard

/-- THE TIED CARD OF 'chapmanlaw32.PartitionGroups'. -/
def partitionGroupsCard : Claim7 := { stood := { row := partitionGroupsRow, standIns := [], harness := (true, "ce419de17c798dc981aef98fc54f8a5232ef72c256b58cd68ef6717b0c115c19"), looks := false }, kinds := [], alts := [], laidByText := true, laidKinds := [.data, .data], laidTests := true, laidLooks := .later }
def PartitionGroupsCardSaid : Prop := Claim7.holds Tryz.pinned (.plain (OpenSpec.ofChange partitionGroupsSpec)) partitionGroupsCard

/-- THE TIED CARD OF 'chapmanlaw32.PartitionBuckets'. -/
def partitionBucketsCard : Claim7 := { stood := { row := partitionBucketsRow, standIns := [], harness := (true, "ce419de17c798dc981aef98fc54f8a5232ef72c256b58cd68ef6717b0c115c19"), looks := false }, kinds := [], alts := [], laidByText := true, laidKinds := [.data, .data], laidTests := true, laidLooks := .later }
def PartitionBucketsCardSaid : Prop := Claim7.holds Tryz.pinned (.plain (OpenSpec.ofChange partitionBucketsSpec)) partitionBucketsCard

/-- THE TIED CARD OF 'chapmanlaw32.PartitionBounds'. -/
def partitionBoundsCard : Claim7 := { stood := { row := partitionBoundsRow, standIns := [], harness := (true, "ce419de17c798dc981aef98fc54f8a5232ef72c256b58cd68ef6717b0c115c19"), looks := false }, kinds := [], alts := [], laidByText := true, laidKinds := [.data, .data, .data], laidTests := true, laidLooks := .later }
def PartitionBoundsCardSaid : Prop := Claim7.holds Tryz.pinned (.plain (OpenSpec.ofChange partitionBoundsSpec)) partitionBoundsCard

/-- THE SECOND FORM's CARD OF 'chapmanlaw32.PartitionMatchesReference'. -/
def partitionMatchesReferenceUptoCard : Claim7 := { stood := { row := partitionMatchesReferenceUptoRow, standIns := [], harness := (true, "ce419de17c798dc981aef98fc54f8a5232ef72c256b58cd68ef6717b0c115c19"), looks := false }, kinds := [], alts := [], laidByText := true, laidKinds := [.data, .data], laidTests := true, laidLooks := .later }
def PartitionMatchesReferenceUptoCardSaid : Prop := Claim7.holds Tryz.pinned (.plain (OpenSpec.upto partitionMatchesReferenceSpec)) partitionMatchesReferenceUptoCard

/-- THE SECOND FORM's CARD OF 'chapmanlaw32.PartitionMonotone'. -/
def partitionMonotoneUptoCard : Claim7 := { stood := { row := partitionMonotoneUptoRow, standIns := [], harness := (true, "ce419de17c798dc981aef98fc54f8a5232ef72c256b58cd68ef6717b0c115c19"), looks := false }, kinds := [], alts := [], laidByText := true, laidKinds := [.data, .data], laidTests := true, laidLooks := .later }
def PartitionMonotoneUptoCardSaid : Prop := Claim7.holds Tryz.pinned (.plain (OpenSpec.upto partitionMonotoneSpec)) partitionMonotoneUptoCard

/-- THE SECOND FORM's CARD OF 'chapmanlaw32.PartitionGroups'. -/
def partitionGroupsUptoCard : Claim7 := { stood := { row := partitionGroupsUptoRow, standIns := [], harness := (true, "ce419de17c798dc981aef98fc54f8a5232ef72c256b58cd68ef6717b0c115c19"), looks := false }, kinds := [], alts := [], laidByText := true, laidKinds := [.data, .data], laidTests := true, laidLooks := .later }
def PartitionGroupsUptoCardSaid : Prop := Claim7.holds Tryz.pinned (.plain (OpenSpec.upto partitionGroupsSpec)) partitionGroupsUptoCard

/-- THE SECOND FORM's CARD OF 'chapmanlaw32.PartitionBuckets'. -/
def partitionBucketsUptoCard : Claim7 := { stood := { row := partitionBucketsUptoRow, standIns := [], harness := (true, "ce419de17c798dc981aef98fc54f8a5232ef72c256b58cd68ef6717b0c115c19"), looks := false }, kinds := [], alts := [], laidByText := true, laidKinds := [.data, .data], laidTests := true, laidLooks := .later }
def PartitionBucketsUptoCardSaid : Prop := Claim7.holds Tryz.pinned (.plain (OpenSpec.upto partitionBucketsSpec)) partitionBucketsUptoCard

/-- THE SECOND FORM's CARD OF 'chapmanlaw32.PartitionBounds'. -/
def partitionBoundsUptoCard : Claim7 := { stood := { row := partitionBoundsUptoRow, standIns := [], harness := (true, "ce419de17c798dc981aef98fc54f8a5232ef72c256b58cd68ef6717b0c115c19"), looks := false }, kinds := [], alts := [], laidByText := true, laidKinds := [.data, .data, .data], laidTests := true, laidLooks := .later }
def PartitionBoundsUptoCardSaid : Prop := Claim7.holds Tryz.pinned (.plain (OpenSpec.upto partitionBoundsSpec)) partitionBoundsUptoCard
end Rows
end Go.Proofs.YteflfnjljjianaaGreatDoor
