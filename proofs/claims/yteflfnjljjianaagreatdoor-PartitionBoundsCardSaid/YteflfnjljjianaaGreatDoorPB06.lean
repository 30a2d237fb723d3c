/- Part of a proof of PartitionBoundsCardSaid: functions of the given program and what they compute, each checked by the kernel. -/
import Derived.Test.YteflfnjljjianaaGreatDoorPB02
import Derived.Test.YteflfnjljjianaaGreatDoorPB05
import Derived.Test.YteflfnjljjianaaGreatDoorPB03
import Derived.Test.YteflfnjljjianaaGreatDoorPB04
import Derived.Deep.RegionHeld3
namespace Go.Proofs.YteflfnjljjianaaGreatDoor.Qx
open Go.RowKit Go.Proofs.YteflfnjljjianaaGreatDoorW.PrintWords Go.Proofs.YteflfnjljjianaaGreatDoorW.PrintLast Go.Proofs.YteflfnjljjianaaGreatDoorW.PrintMore
attribute [local go_sem] max2_int min2_int max_two min_two
set_option linter.unusedVariables false
set_option linter.unusedSimpArgs false
def partition_spec_isValue.f (k : Nat) (a0_0 a0_1 a0_2 : Int) (a1_0 a1_1 : Int) (a1_2 : Bool) (a2_0 a2_1 : Int) (a2_2 : ByteArray) : Option Bool :=
  (value_Has.f k a1_0 a1_1 a1_2 a2_0 a2_1 a2_2).bind fun h => if h = true then some true else if (a1_0 == 2) = true then if (a2_0 == 2) = true then (value_Wide.f k a2_0 a2_1 a2_2).bind fun b => if b = true then decimal_Fits.f a2_1 a1_1 else some false else some false else some false
set_option maxRecDepth 100000 in
set_option maxHeartbeats 4000000 in
theorem partition_spec_isValue.yes (k : Nat) (a0_0 a0_1 a0_2 : Int) (a1_0 a1_1 : Int) (a1_2 : Bool) (a2_0 a2_1 : Int) (a2_2 : ByteArray) (w : World) (hG : Laid w) (H1 : Hid (value_Has.f k a1_0 a1_1 a1_2 a2_0 a2_1 a2_2 = some true)) :
    Calls Tryz.prog 77 #[.agg #[.int .i64 a0_0, .int .i64 a0_1, .int .i64 a0_2], .agg #[.int .i64 a1_0, .int .i64 a1_1, .bool a1_2], .agg #[.int .i64 a2_0, .int .i64 a2_1, .string a2_2]] w fun e w' => e = .returned (.bool true) ∧ Below w.heap.size w w' := by
  have hu106 := Tryz.underlying106
  have hu63 := Tryz.underlying63
  have hu35 := Tryz.underlying35
  have HG := Lib.hid hG
  clear hG
  go_enter Tryz.func77, Tryz.ntmps77
  go_wp2_with fail
  have hB := Lib.hid ((((Below.refl _ w).alloc (Nat.le_refl _) (.cells #[.int .i64 a0_0, .int .i64 a0_1, .int .i64 a0_2] 106)).alloc (by simp only [World.size_alloc]; omega) (.cells #[.int .i64 a1_0, .int .i64 a1_1, .bool a1_2] 63)).alloc (by simp only [World.size_alloc]; omega) (.cells #[.int .i64 a2_0, .int .i64 a2_1, .string a2_2] 35))
  have k0_0 : (((w.alloc (.cells #[.int .i64 a0_0, .int .i64 a0_1, .int .i64 a0_2] 106)).alloc (.cells #[.int .i64 a1_0, .int .i64 a1_1, .bool a1_2] 63)).alloc (.cells #[.int .i64 a2_0, .int .i64 a2_1, .string a2_2] 35)).cell? ⟨w.heap.size, 0, none⟩ = some (.int .i64 a0_0) := by simp [go_sem]
  have k0_1 : (((w.alloc (.cells #[.int .i64 a0_0, .int .i64 a0_1, .int .i64 a0_2] 106)).alloc (.cells #[.int .i64 a1_0, .int .i64 a1_1, .bool a1_2] 63)).alloc (.cells #[.int .i64 a2_0, .int .i64 a2_1, .string a2_2] 35)).cell? ⟨w.heap.size, 1, none⟩ = some (.int .i64 a0_1) := by simp [go_sem]
  have k0_2 : (((w.alloc (.cells #[.int .i64 a0_0, .int .i64 a0_1, .int .i64 a0_2] 106)).alloc (.cells #[.int .i64 a1_0, .int .i64 a1_1, .bool a1_2] 63)).alloc (.cells #[.int .i64 a2_0, .int .i64 a2_1, .string a2_2] 35)).cell? ⟨w.heap.size, 2, none⟩ = some (.int .i64 a0_2) := by simp [go_sem]
  have k1_0 : (((w.alloc (.cells #[.int .i64 a0_0, .int .i64 a0_1, .int .i64 a0_2] 106)).alloc (.cells #[.int .i64 a1_0, .int .i64 a1_1, .bool a1_2] 63)).alloc (.cells #[.int .i64 a2_0, .int .i64 a2_1, .string a2_2] 35)).cell? ⟨w.heap.size + 1, 0, none⟩ = some (.int .i64 a1_0) := by simp [go_sem]
  have k1_1 : (((w.alloc (.cells #[.int .i64 a0_0, .int .i64 a0_1, .int .i64 a0_2] 106)).alloc (.cells #[.int .i64 a1_0, .int .i64 a1_1, .bool a1_2] 63)).alloc (.cells #[.int .i64 a2_0, .int .i64 a2_1, .string a2_2] 35)).cell? ⟨w.heap.size + 1, 1, none⟩ = some (.int .i64 a1_1) := by simp [go_sem]
  have k1_2 : (((w.alloc (.cells #[.int .i64 a0_0, .int .i64 a0_1, .int .i64 a0_2] 106)).alloc (.cells #[.int .i64 a1_0, .int .i64 a1_1, .bool a1_2] 63)).alloc (.cells #[.int .i64 a2_0, .int .i64 a2_1, .string a2_2] 35)).cell? ⟨w.heap.size + 1, 2, none⟩ = some (.bool a1_2) := by simp [go_sem]
  have k2_0 : (((w.alloc (.cells #[.int .i64 a0_0, .int .i64 a0_1, .int .i64 a0_2] 106)).alloc (.cells #[.int .i64 a1_0, .int .i64 a1_1, .bool a1_2] 63)).alloc (.cells #[.int .i64 a2_0, .int .i64 a2_1, .string a2_2] 35)).cell? ⟨w.heap.size + 1 + 1, 0, none⟩ = some (.int .i64 a2_0) := by simp [go_sem]
  have k2_1 : (((w.alloc (.cells #[.int .i64 a0_0, .int .i64 a0_1, .int .i64 a0_2] 106)).alloc (.cells #[.int .i64 a1_0, .int .i64 a1_1, .bool a1_2] 63)).alloc (.cells #[.int .i64 a2_0, .int .i64 a2_1, .string a2_2] 35)).cell? ⟨w.heap.size + 1 + 1, 1, none⟩ = some (.int .i64 a2_1) := by simp [go_sem]
  have k2_2 : (((w.alloc (.cells #[.int .i64 a0_0, .int .i64 a0_1, .int .i64 a0_2] 106)).alloc (.cells #[.int .i64 a1_0, .int .i64 a1_1, .bool a1_2] 63)).alloc (.cells #[.int .i64 a2_0, .int .i64 a2_1, .string a2_2] 35)).cell? ⟨w.heap.size + 1 + 1, 2, none⟩ = some (.string a2_2) := by simp [go_sem]
  have lt0 : w.heap.size < (((w.alloc (.cells #[.int .i64 a0_0, .int .i64 a0_1, .int .i64 a0_2] 106)).alloc (.cells #[.int .i64 a1_0, .int .i64 a1_1, .bool a1_2] 63)).alloc (.cells #[.int .i64 a2_0, .int .i64 a2_1, .string a2_2] 35)).heap.size := by simp only [World.size_alloc]; omega
  have lt1 : w.heap.size + 1 < (((w.alloc (.cells #[.int .i64 a0_0, .int .i64 a0_1, .int .i64 a0_2] 106)).alloc (.cells #[.int .i64 a1_0, .int .i64 a1_1, .bool a1_2] 63)).alloc (.cells #[.int .i64 a2_0, .int .i64 a2_1, .string a2_2] 35)).heap.size := by simp only [World.size_alloc]; omega
  have lt2 : w.heap.size + 1 + 1 < (((w.alloc (.cells #[.int .i64 a0_0, .int .i64 a0_1, .int .i64 a0_2] 106)).alloc (.cells #[.int .i64 a1_0, .int .i64 a1_1, .bool a1_2] 63)).alloc (.cells #[.int .i64 a2_0, .int .i64 a2_1, .string a2_2] 35)).heap.size := by simp only [World.size_alloc]; omega
  generalize ((w.alloc (.cells #[.int .i64 a0_0, .int .i64 a0_1, .int .i64 a0_2] 106)).alloc (.cells #[.int .i64 a1_0, .int .i64 a1_1, .bool a1_2] 63)).alloc (.cells #[.int .i64 a2_0, .int .i64 a2_1, .string a2_2] 35) = W at *
  clear lt0 lt1 lt2
  refine (value_Has.calls k _ _ _ _ _ _ true _ H1.out (HG.out.below hB.out)).mono ?_
  rintro e w1 ⟨rfl, hbn⟩
  replace k0_0 := pw_cell_below hbn k0_0
  replace k0_1 := pw_cell_below hbn k0_1
  replace k0_2 := pw_cell_below hbn k0_2
  replace k1_0 := pw_cell_below hbn k1_0
  replace k1_1 := pw_cell_below hbn k1_1
  replace k1_2 := pw_cell_below hbn k1_2
  replace k2_0 := pw_cell_below hbn k2_0
  replace k2_1 := pw_cell_below hbn k2_1
  replace k2_2 := pw_cell_below hbn k2_2
  replace hB := Lib.hid (below_then hB.out hB.out.size hbn)
  clear hbn
  go_wp2
  go_ret
  exact ⟨rfl, hB.out⟩
set_option maxRecDepth 100000 in
set_option maxHeartbeats 4000000 in
theorem partition_spec_isValue.no1 (k : Nat) (a0_0 a0_1 a0_2 : Int) (a1_0 a1_1 : Int) (a1_2 : Bool) (a2_0 a2_1 : Int) (a2_2 : ByteArray) (w : World) (hG : Laid w) (H1 : Hid (value_Has.f k a1_0 a1_1 a1_2 a2_0 a2_1 a2_2 = some false)) (b1 : (a1_0 == 2) = false) :
    Calls Tryz.prog 77 #[.agg #[.int .i64 a0_0, .int .i64 a0_1, .int .i64 a0_2], .agg #[.int .i64 a1_0, .int .i64 a1_1, .bool a1_2], .agg #[.int .i64 a2_0, .int .i64 a2_1, .string a2_2]] w fun e w' => e = .returned (.bool false) ∧ Below w.heap.size w w' := by
  have hu106 := Tryz.underlying106
  have hu63 := Tryz.underlying63
  have hu35 := Tryz.underlying35
  have HG := Lib.hid hG
  clear hG
  go_enter Tryz.func77, Tryz.ntmps77
  go_wp2_with fail
  have hB := Lib.hid ((((Below.refl _ w).alloc (Nat.le_refl _) (.cells #[.int .i64 a0_0, .int .i64 a0_1, .int .i64 a0_2] 106)).alloc (by simp only [World.size_alloc]; omega) (.cells #[.int .i64 a1_0, .int .i64 a1_1, .bool a1_2] 63)).alloc (by simp only [World.size_alloc]; omega) (.cells #[.int .i64 a2_0, .int .i64 a2_1, .string a2_2] 35))
  have k0_0 : (((w.alloc (.cells #[.int .i64 a0_0, .int .i64 a0_1, .int .i64 a0_2] 106)).alloc (.cells #[.int .i64 a1_0, .int .i64 a1_1, .bool a1_2] 63)).alloc (.cells #[.int .i64 a2_0, .int .i64 a2_1, .string a2_2] 35)).cell? ⟨w.heap.size, 0, none⟩ = some (.int .i64 a0_0) := by simp [go_sem]
  have k0_1 : (((w.alloc (.cells #[.int .i64 a0_0, .int .i64 a0_1, .int .i64 a0_2] 106)).alloc (.cells #[.int .i64 a1_0, .int .i64 a1_1, .bool a1_2] 63)).alloc (.cells #[.int .i64 a2_0, .int .i64 a2_1, .string a2_2] 35)).cell? ⟨w.heap.size, 1, none⟩ = some (.int .i64 a0_1) := by simp [go_sem]
  have k0_2 : (((w.alloc (.cells #[.int .i64 a0_0, .int .i64 a0_1, .int .i64 a0_2] 106)).alloc (.cells #[.int .i64 a1_0, .int .i64 a1_1, .bool a1_2] 63)).alloc (.cells #[.int .i64 a2_0, .int .i64 a2_1, .string a2_2] 35)).cell? ⟨w.heap.size, 2, none⟩ = some (.int .i64 a0_2) := by simp [go_sem]
  have k1_0 : (((w.alloc (.cells #[.int .i64 a0_0, .int .i64 a0_1, .int .i64 a0_2] 106)).alloc (.cells #[.int .i64 a1_0, .int .i64 a1_1, .bool a1_2] 63)).alloc (.cells #[.int .i64 a2_0, .int .i64 a2_1, .string a2_2] 35)).cell? ⟨w.heap.size + 1, 0, none⟩ = some (.int .i64 a1_0) := by simp [go_sem]
  have k1_1 : (((w.alloc (.cells #[.int .i64 a0_0, .int .i64 a0_1, .int .i64 a0_2] 106)).alloc (.cells #[.int .i64 a1_0, .int .i64 a1_1, .bool a1_2] 63)).alloc (.cells #[.int .i64 a2_0, .int .i64 a2_1, .string a2_2] 35)).cell? ⟨w.heap.size + 1, 1, none⟩ = some (.int .i64 a1_1) := by simp [go_sem]
  have k1_2 : (((w.alloc (.cells #[.int .i64 a0_0, .int .i64 a0_1, .int .i64 a0_2] 106)).alloc (.cells #[.int .i64 a1_0, .int .i64 a1_1, .bool a1_2] 63)).alloc (.cells #[.int .i64 a2_0, .int .i64 a2_1, .string a2_2] 35)).cell? ⟨w.heap.size + 1, 2, none⟩ = some (.bool a1_2) := by simp [go_sem]
  have k2_0 : (((w.alloc (.cells #[.int .i64 a0_0, .int .i64 a0_1, .int .i64 a0_2] 106)).alloc (.cells #[.int .i64 a1_0, .int .i64 a1_1, .bool a1_2] 63)).alloc (.cells #[.int .i64 a2_0, .int .i64 a2_1, .string a2_2] 35)).cell? ⟨w.heap.size + 1 + 1, 0, none⟩ = some (.int .i64 a2_0) := by simp [go_sem]
  have k2_1 : (((w.alloc (.cells #[.int .i64 a0_0, .int .i64 a0_1, .int .i64 a0_2] 106)).alloc (.cells #[.int .i64 a1_0, .int .i64 a1_1, .bool a1_2] 63)).alloc (.cells #[.int .i64 a2_0, .int .i64 a2_1, .string a2_2] 35)).cell? ⟨w.heap.size + 1 + 1, 1, none⟩ = some (.int .i64 a2_1) := by simp [go_sem]
  have k2_2 : (((w.alloc (.cells #[.int .i64 a0_0, .int .i64 a0_1, .int .i64 a0_2] 106)).alloc (.cells #[.int .i64 a1_0, .int .i64 a1_1, .bool a1_2] 63)).alloc (.cells #[.int .i64 a2_0, .int .i64 a2_1, .string a2_2] 35)).cell? ⟨w.heap.size + 1 + 1, 2, none⟩ = some (.string a2_2) := by simp [go_sem]
  have lt0 : w.heap.size < (((w.alloc (.cells #[.int .i64 a0_0, .int .i64 a0_1, .int .i64 a0_2] 106)).alloc (.cells #[.int .i64 a1_0, .int .i64 a1_1, .bool a1_2] 63)).alloc (.cells #[.int .i64 a2_0, .int .i64 a2_1, .string a2_2] 35)).heap.size := by simp only [World.size_alloc]; omega
  have lt1 : w.heap.size + 1 < (((w.alloc (.cells #[.int .i64 a0_0, .int .i64 a0_1, .int .i64 a0_2] 106)).alloc (.cells #[.int .i64 a1_0, .int .i64 a1_1, .bool a1_2] 63)).alloc (.cells #[.int .i64 a2_0, .int .i64 a2_1, .string a2_2] 35)).heap.size := by simp only [World.size_alloc]; omega
  have lt2 : w.heap.size + 1 + 1 < (((w.alloc (.cells #[.int .i64 a0_0, .int .i64 a0_1, .int .i64 a0_2] 106)).alloc (.cells #[.int .i64 a1_0, .int .i64 a1_1, .bool a1_2] 63)).alloc (.cells #[.int .i64 a2_0, .int .i64 a2_1, .string a2_2] 35)).heap.size := by simp only [World.size_alloc]; omega
  generalize ((w.alloc (.cells #[.int .i64 a0_0, .int .i64 a0_1, .int .i64 a0_2] 106)).alloc (.cells #[.int .i64 a1_0, .int .i64 a1_1, .bool a1_2] 63)).alloc (.cells #[.int .i64 a2_0, .int .i64 a2_1, .string a2_2] 35) = W at *
  clear lt0 lt1 lt2
  refine (value_Has.calls k _ _ _ _ _ _ false _ H1.out (HG.out.below hB.out)).mono ?_
  rintro e w1 ⟨rfl, hbn⟩
  replace k0_0 := pw_cell_below hbn k0_0
  replace k0_1 := pw_cell_below hbn k0_1
  replace k0_2 := pw_cell_below hbn k0_2
  replace k1_0 := pw_cell_below hbn k1_0
  replace k1_1 := pw_cell_below hbn k1_1
  replace k1_2 := pw_cell_below hbn k1_2
  replace k2_0 := pw_cell_below hbn k2_0
  replace k2_1 := pw_cell_below hbn k2_1
  replace k2_2 := pw_cell_below hbn k2_2
  replace hB := Lib.hid (below_then hB.out hB.out.size hbn)
  clear hbn
  go_wp2
  go_ret
  exact ⟨rfl, hB.out⟩
set_option maxRecDepth 100000 in
set_option maxHeartbeats 4000000 in
theorem partition_spec_isValue.no2 (k : Nat) (a0_0 a0_1 a0_2 : Int) (a1_0 a1_1 : Int) (a1_2 : Bool) (a2_0 a2_1 : Int) (a2_2 : ByteArray) (w : World) (hG : Laid w) (H1 : Hid (value_Has.f k a1_0 a1_1 a1_2 a2_0 a2_1 a2_2 = some false)) (b1 : (a1_0 == 2) = true) (b2 : (a2_0 == 2) = false) :
    Calls Tryz.prog 77 #[.agg #[.int .i64 a0_0, .int .i64 a0_1, .int .i64 a0_2], .agg #[.int .i64 a1_0, .int .i64 a1_1, .bool a1_2], .agg #[.int .i64 a2_0, .int .i64 a2_1, .string a2_2]] w fun e w' => e = .returned (.bool false) ∧ Below w.heap.size w w' := by
  have hu106 := Tryz.underlying106
  have hu63 := Tryz.underlying63
  have hu35 := Tryz.underlying35
  have HG := Lib.hid hG
  clear hG
  go_enter Tryz.func77, Tryz.ntmps77
  go_wp2_with fail
  have hB := Lib.hid ((((Below.refl _ w).alloc (Nat.le_refl _) (.cells #[.int .i64 a0_0, .int .i64 a0_1, .int .i64 a0_2] 106)).alloc (by simp only [World.size_alloc]; omega) (.cells #[.int .i64 a1_0, .int .i64 a1_1, .bool a1_2] 63)).alloc (by simp only [World.size_alloc]; omega) (.cells #[.int .i64 a2_0, .int .i64 a2_1, .string a2_2] 35))
  have k0_0 : (((w.alloc (.cells #[.int .i64 a0_0, .int .i64 a0_1, .int .i64 a0_2] 106)).alloc (.cells #[.int .i64 a1_0, .int .i64 a1_1, .bool a1_2] 63)).alloc (.cells #[.int .i64 a2_0, .int .i64 a2_1, .string a2_2] 35)).cell? ⟨w.heap.size, 0, none⟩ = some (.int .i64 a0_0) := by simp [go_sem]
  have k0_1 : (((w.alloc (.cells #[.int .i64 a0_0, .int .i64 a0_1, .int .i64 a0_2] 106)).alloc (.cells #[.int .i64 a1_0, .int .i64 a1_1, .bool a1_2] 63)).alloc (.cells #[.int .i64 a2_0, .int .i64 a2_1, .string a2_2] 35)).cell? ⟨w.heap.size, 1, none⟩ = some (.int .i64 a0_1) := by simp [go_sem]
  have k0_2 : (((w.alloc (.cells #[.int .i64 a0_0, .int .i64 a0_1, .int .i64 a0_2] 106)).alloc (.cells #[.int .i64 a1_0, .int .i64 a1_1, .bool a1_2] 63)).alloc (.cells #[.int .i64 a2_0, .int .i64 a2_1, .string a2_2] 35)).cell? ⟨w.heap.size, 2, none⟩ = some (.int .i64 a0_2) := by simp [go_sem]
  have k1_0 : (((w.alloc (.cells #[.int .i64 a0_0, .int .i64 a0_1, .int .i64 a0_2] 106)).alloc (.cells #[.int .i64 a1_0, .int .i64 a1_1, .bool a1_2] 63)).alloc (.cells #[.int .i64 a2_0, .int .i64 a2_1, .string a2_2] 35)).cell? ⟨w.heap.size + 1, 0, none⟩ = some (.int .i64 a1_0) := by simp [go_sem]
  have k1_1 : (((w.alloc (.cells #[.int .i64 a0_0, .int .i64 a0_1, .int .i64 a0_2] 106)).alloc (.cells #[.int .i64 a1_0, .int .i64 a1_1, .bool a1_2] 63)).alloc (.cells #[.int .i64 a2_0, .int .i64 a2_1, .string a2_2] 35)).cell? ⟨w.heap.size + 1, 1, none⟩ = some (.int .i64 a1_1) := by simp [go_sem]
  have k1_2 : (((w.alloc (.cells #[.int .i64 a0_0, .int .i64 a0_1, .int .i64 a0_2] 106)).alloc (.cells #[.int .i64 a1_0, .int .i64 a1_1, .bool a1_2] 63)).alloc (.cells #[.int .i64 a2_0, .int .i64 a2_1, .string a2_2] 35)).cell? ⟨w.heap.size + 1, 2, none⟩ = some (.bool a1_2) := by simp [go_sem]
  have k2_0 : (((w.alloc (.cells #[.int .i64 a0_0, .int .i64 a0_1, .int .i64 a0_2] 106)).alloc (.cells #[.int .i64 a1_0, .int .i64 a1_1, .bool a1_2] 63)).alloc (.cells #[.int .i64 a2_0, .int .i64 a2_1, .string a2_2] 35)).cell? ⟨w.heap.size + 1 + 1, 0, none⟩ = some (.int .i64 a2_0) := by simp [go_sem]
  have k2_1 : (((w.alloc (.cells #[.int .i64 a0_0, .int .i64 a0_1, .int .i64 a0_2] 106)).alloc (.cells #[.int .i64 a1_0, .int .i64 a1_1, .bool a1_2] 63)).alloc (.cells #[.int .i64 a2_0, .int .i64 a2_1, .string a2_2] 35)).cell? ⟨w.heap.size + 1 + 1, 1, none⟩ = some (.int .i64 a2_1) := by simp [go_sem]
  have k2_2 : (((w.alloc (.cells #[.int .i64 a0_0, .int .i64 a0_1, .int .i64 a0_2] 106)).alloc (.cells #[.int .i64 a1_0, .int .i64 a1_1, .bool a1_2] 63)).alloc (.cells #[.int .i64 a2_0, .int .i64 a2_1, .string a2_2] 35)).cell? ⟨w.heap.size + 1 + 1, 2, none⟩ = some (.string a2_2) := by simp [go_sem]
  have lt0 : w.heap.size < (((w.alloc (.cells #[.int .i64 a0_0, .int .i64 a0_1, .int .i64 a0_2] 106)).alloc (.cells #[.int .i64 a1_0, .int .i64 a1_1, .bool a1_2] 63)).alloc (.cells #[.int .i64 a2_0, .int .i64 a2_1, .string a2_2] 35)).heap.size := by simp only [World.size_alloc]; omega
  have lt1 : w.heap.size + 1 < (((w.alloc (.cells #[.int .i64 a0_0, .int .i64 a0_1, .int .i64 a0_2] 106)).alloc (.cells #[.int .i64 a1_0, .int .i64 a1_1, .bool a1_2] 63)).alloc (.cells #[.int .i64 a2_0, .int .i64 a2_1, .string a2_2] 35)).heap.size := by simp only [World.size_alloc]; omega
  have lt2 : w.heap.size + 1 + 1 < (((w.alloc (.cells #[.int .i64 a0_0, .int .i64 a0_1, .int .i64 a0_2] 106)).alloc (.cells #[.int .i64 a1_0, .int .i64 a1_1, .bool a1_2] 63)).alloc (.cells #[.int .i64 a2_0, .int .i64 a2_1, .string a2_2] 35)).heap.size := by simp only [World.size_alloc]; omega
  generalize ((w.alloc (.cells #[.int .i64 a0_0, .int .i64 a0_1, .int .i64 a0_2] 106)).alloc (.cells #[.int .i64 a1_0, .int .i64 a1_1, .bool a1_2] 63)).alloc (.cells #[.int .i64 a2_0, .int .i64 a2_1, .string a2_2] 35) = W at *
  clear lt0 lt1 lt2
  refine (value_Has.calls k _ _ _ _ _ _ false _ H1.out (HG.out.below hB.out)).mono ?_
  rintro e w1 ⟨rfl, hbn⟩
  replace k0_0 := pw_cell_below hbn k0_0
  replace k0_1 := pw_cell_below hbn k0_1
  replace k0_2 := pw_cell_below hbn k0_2
  replace k1_0 := pw_cell_below hbn k1_0
  replace k1_1 := pw_cell_below hbn k1_1
  replace k1_2 := pw_cell_below hbn k1_2
  replace k2_0 := pw_cell_below hbn k2_0
  replace k2_1 := pw_cell_below hbn k2_1
  replace k2_2 := pw_cell_below hbn k2_2
  replace hB := Lib.hid (below_then hB.out hB.out.size hbn)
  clear hbn
  go_wp2
  go_ret
  exact ⟨rfl, hB.out⟩
set_option maxRecDepth 100000 in
set_option maxHeartbeats 4000000 in
theorem partition_spec_isValue.no3 (k : Nat) (a0_0 a0_1 a0_2 : Int) (a1_0 a1_1 : Int) (a1_2 : Bool) (a2_0 a2_1 : Int) (a2_2 : ByteArray) (w : World) (hG : Laid w) (H1 : Hid (value_Has.f k a1_0 a1_1 a1_2 a2_0 a2_1 a2_2 = some false)) (b1 : (a1_0 == 2) = true) (b2 : (a2_0 == 2) = true) (H2 : Hid (value_Wide.f k a2_0 a2_1 a2_2 = some false)) :
    Calls Tryz.prog 77 #[.agg #[.int .i64 a0_0, .int .i64 a0_1, .int .i64 a0_2], .agg #[.int .i64 a1_0, .int .i64 a1_1, .bool a1_2], .agg #[.int .i64 a2_0, .int .i64 a2_1, .string a2_2]] w fun e w' => e = .returned (.bool false) ∧ Below w.heap.size w w' := by
  have hu106 := Tryz.underlying106
  have hu63 := Tryz.underlying63
  have hu35 := Tryz.underlying35
  have HG := Lib.hid hG
  clear hG
  go_enter Tryz.func77, Tryz.ntmps77
  go_wp2_with fail
  have hB := Lib.hid ((((Below.refl _ w).alloc (Nat.le_refl _) (.cells #[.int .i64 a0_0, .int .i64 a0_1, .int .i64 a0_2] 106)).alloc (by simp only [World.size_alloc]; omega) (.cells #[.int .i64 a1_0, .int .i64 a1_1, .bool a1_2] 63)).alloc (by simp only [World.size_alloc]; omega) (.cells #[.int .i64 a2_0, .int .i64 a2_1, .string a2_2] 35))
  have k0_0 : (((w.alloc (.cells #[.int .i64 a0_0, .int .i64 a0_1, .int .i64 a0_2] 106)).alloc (.cells #[.int .i64 a1_0, .int .i64 a1_1, .bool a1_2] 63)).alloc (.cells #[.int .i64 a2_0, .int .i64 a2_1, .string a2_2] 35)).cell? ⟨w.heap.size, 0, none⟩ = some (.int .i64 a0_0) := by simp [go_sem]
  have k0_1 : (((w.alloc (.cells #[.int .i64 a0_0, .int .i64 a0_1, .int .i64 a0_2] 106)).alloc (.cells #[.int .i64 a1_0, .int .i64 a1_1, .bool a1_2] 63)).alloc (.cells #[.int .i64 a2_0, .int .i64 a2_1, .string a2_2] 35)).cell? ⟨w.heap.size, 1, none⟩ = some (.int .i64 a0_1) := by simp [go_sem]
  have k0_2 : (((w.alloc (.cells #[.int .i64 a0_0, .int .i64 a0_1, .int .i64 a0_2] 106)).alloc (.cells #[.int .i64 a1_0, .int .i64 a1_1, .bool a1_2] 63)).alloc (.cells #[.int .i64 a2_0, .int .i64 a2_1, .string a2_2] 35)).cell? ⟨w.heap.size, 2, none⟩ = some (.int .i64 a0_2) := by simp [go_sem]
  have k1_0 : (((w.alloc (.cells #[.int .i64 a0_0, .int .i64 a0_1, .int .i64 a0_2] 106)).alloc (.cells #[.int .i64 a1_0, .int .i64 a1_1, .bool a1_2] 63)).alloc (.cells #[.int .i64 a2_0, .int .i64 a2_1, .string a2_2] 35)).cell? ⟨w.heap.size + 1, 0, none⟩ = some (.int .i64 a1_0) := by simp [go_sem]
  have k1_1 : (((w.alloc (.cells #[.int .i64 a0_0, .int .i64 a0_1, .int .i64 a0_2] 106)).alloc (.cells #[.int .i64 a1_0, .int .i64 a1_1, .bool a1_2] 63)).alloc (.cells #[.int .i64 a2_0, .int .i64 a2_1, .string a2_2] 35)).cell? ⟨w.heap.size + 1, 1, none⟩ = some (.int .i64 a1_1) := by simp [go_sem]
  have k1_2 : (((w.alloc (.cells #[.int .i64 a0_0, .int .i64 a0_1, .int .i64 a0_2] 106)).alloc (.cells #[.int .i64 a1_0, .int .i64 a1_1, .bool a1_2] 63)).alloc (.cells #[.int .i64 a2_0, .int .i64 a2_1, .string a2_2] 35)).cell? ⟨w.heap.size + 1, 2, none⟩ = some (.bool a1_2) := by simp [go_sem]
  have k2_0 : (((w.alloc (.cells #[.int .i64 a0_0, .int .i64 a0_1, .int .i64 a0_2] 106)).alloc (.cells #[.int .i64 a1_0, .int .i64 a1_1, .bool a1_2] 63)).alloc (.cells #[.int .i64 a2_0, .int .i64 a2_1, .string a2_2] 35)).cell? ⟨w.heap.size + 1 + 1, 0, none⟩ = some (.int .i64 a2_0) := by simp [go_sem]
  have k2_1 : (((w.alloc (.cells #[.int .i64 a0_0, .int .i64 a0_1, .int .i64 a0_2] 106)).alloc (.cells #[.int .i64 a1_0, .int .i64 a1_1, .bool a1_2] 63)).alloc (.cells #[.int .i64 a2_0, .int .i64 a2_1, .string a2_2] 35)).cell? ⟨w.heap.size + 1 + 1, 1, none⟩ = some (.int .i64 a2_1) := by simp [go_sem]
  have k2_2 : (((w.alloc (.cells #[.int .i64 a0_0, .int .i64 a0_1, .int .i64 a0_2] 106)).alloc (.cells #[.int .i64 a1_0, .int .i64 a1_1, .bool a1_2] 63)).alloc (.cells #[.int .i64 a2_0, .int .i64 a2_1, .string a2_2] 35)).cell? ⟨w.heap.size + 1 + 1, 2, none⟩ = some (.string a2_2) := by simp [go_sem]
  have lt0 : w.heap.size < (((w.alloc (.cells #[.int .i64 a0_0, .int .i64 a0_1, .int .i64 a0_2] 106)).alloc (.cells #[.int .i64 a1_0, .int .i64 a1_1, .bool a1_2] 63)).alloc (.cells #[.int .i64 a2_0, .int .i64 a2_1, .string a2_2] 35)).heap.size := by simp only [World.size_alloc]; omega
  have lt1 : w.heap.size + 1 < (((w.alloc (.cells #[.int .i64 a0_0, .int .i64 a0_1, .int .i64 a0_2] 106)).alloc (.cells #[.int .i64 a1_0, .int .i64 a1_1, .bool a1_2] 63)).alloc (.cells #[.int .i64 a2_0, .int .i64 a2_1, .string a2_2] 35)).heap.size := by simp only [World.size_alloc]; omega
  have lt2 : w.heap.size + 1 + 1 < (((w.alloc (.cells #[.int .i64 a0_0, .int .i64 a0_1, .int .i64 a0_2] 106)).alloc (.cells #[.int .i64 a1_0, .int .i64 a1_1, .bool a1_2] 63)).alloc (.cells #[.int .i64 a2_0, .int .i64 a2_1, .string a2_2] 35)).heap.size := by simp only [World.size_alloc]; omega
  generalize ((w.alloc (.cells #[.int .i64 a0_0, .int .i64 a0_1, .int .i64 a0_2] 106)).alloc (.cells #[.int .i64 a1_0, .int .i64 a1_1, .bool a1_2] 63)).alloc (.cells #[.int .i64 a2_0, .int .i64 a2_1, .string a2_2] 35) = W at *
  clear lt0 lt1 lt2
  refine (value_Has.calls k _ _ _ _ _ _ false _ H1.out (HG.out.below hB.out)).mono ?_
  rintro e w1 ⟨rfl, hbn⟩
  replace k0_0 := pw_cell_below hbn k0_0
  replace k0_1 := pw_cell_below hbn k0_1
  replace k0_2 := pw_cell_below hbn k0_2
  replace k1_0 := pw_cell_below hbn k1_0
  replace k1_1 := pw_cell_below hbn k1_1
  replace k1_2 := pw_cell_below hbn k1_2
  replace k2_0 := pw_cell_below hbn k2_0
  replace k2_1 := pw_cell_below hbn k2_1
  replace k2_2 := pw_cell_below hbn k2_2
  replace hB := Lib.hid (below_then hB.out hB.out.size hbn)
  clear hbn
  go_wp2_with fail
  refine (value_Wide.calls k _ _ _ false _ H2.out).mono ?_
  rintro e w2 ⟨rfl, hbn⟩
  replace k0_0 := pw_cell_below hbn k0_0
  replace k0_1 := pw_cell_below hbn k0_1
  replace k0_2 := pw_cell_below hbn k0_2
  replace k1_0 := pw_cell_below hbn k1_0
  replace k1_1 := pw_cell_below hbn k1_1
  replace k1_2 := pw_cell_below hbn k1_2
  replace k2_0 := pw_cell_below hbn k2_0
  replace k2_1 := pw_cell_below hbn k2_1
  replace k2_2 := pw_cell_below hbn k2_2
  replace hB := Lib.hid (below_then hB.out hB.out.size hbn)
  clear hbn
  go_wp2
  go_ret
  exact ⟨rfl, hB.out⟩
set_option maxRecDepth 100000 in
set_option maxHeartbeats 4000000 in
theorem partition_spec_isValue.last (k : Nat) (a0_0 a0_1 a0_2 : Int) (a1_0 a1_1 : Int) (a1_2 : Bool) (a2_0 a2_1 : Int) (a2_2 : ByteArray) (w : World) (hG : Laid w) (H1 : Hid (value_Has.f k a1_0 a1_1 a1_2 a2_0 a2_1 a2_2 = some false)) (b1 : (a1_0 == 2) = true) (b2 : (a2_0 == 2) = true) (H2 : Hid (value_Wide.f k a2_0 a2_1 a2_2 = some true)) (r : Bool) (H3 : Hid (decimal_Fits.f a2_1 a1_1 = some r)) :
    Calls Tryz.prog 77 #[.agg #[.int .i64 a0_0, .int .i64 a0_1, .int .i64 a0_2], .agg #[.int .i64 a1_0, .int .i64 a1_1, .bool a1_2], .agg #[.int .i64 a2_0, .int .i64 a2_1, .string a2_2]] w fun e w' => e = .returned (.bool r) ∧ Below w.heap.size w w' := by
  have hu106 := Tryz.underlying106
  have hu63 := Tryz.underlying63
  have hu35 := Tryz.underlying35
  have HG := Lib.hid hG
  clear hG
  go_enter Tryz.func77, Tryz.ntmps77
  go_wp2_with fail
  have hB := Lib.hid ((((Below.refl _ w).alloc (Nat.le_refl _) (.cells #[.int .i64 a0_0, .int .i64 a0_1, .int .i64 a0_2] 106)).alloc (by simp only [World.size_alloc]; omega) (.cells #[.int .i64 a1_0, .int .i64 a1_1, .bool a1_2] 63)).alloc (by simp only [World.size_alloc]; omega) (.cells #[.int .i64 a2_0, .int .i64 a2_1, .string a2_2] 35))
  have k0_0 : (((w.alloc (.cells #[.int .i64 a0_0, .int .i64 a0_1, .int .i64 a0_2] 106)).alloc (.cells #[.int .i64 a1_0, .int .i64 a1_1, .bool a1_2] 63)).alloc (.cells #[.int .i64 a2_0, .int .i64 a2_1, .string a2_2] 35)).cell? ⟨w.heap.size, 0, none⟩ = some (.int .i64 a0_0) := by simp [go_sem]
  have k0_1 : (((w.alloc (.cells #[.int .i64 a0_0, .int .i64 a0_1, .int .i64 a0_2] 106)).alloc (.cells #[.int .i64 a1_0, .int .i64 a1_1, .bool a1_2] 63)).alloc (.cells #[.int .i64 a2_0, .int .i64 a2_1, .string a2_2] 35)).cell? ⟨w.heap.size, 1, none⟩ = some (.int .i64 a0_1) := by simp [go_sem]
  have k0_2 : (((w.alloc (.cells #[.int .i64 a0_0, .int .i64 a0_1, .int .i64 a0_2] 106)).alloc (.cells #[.int .i64 a1_0, .int .i64 a1_1, .bool a1_2] 63)).alloc (.cells #[.int .i64 a2_0, .int .i64 a2_1, .string a2_2] 35)).cell? ⟨w.heap.size, 2, none⟩ = some (.int .i64 a0_2) := by simp [go_sem]
  have k1_0 : (((w.alloc (.cells #[.int .i64 a0_0, .int .i64 a0_1, .int .i64 a0_2] 106)).alloc (.cells #[.int .i64 a1_0, .int .i64 a1_1, .bool a1_2] 63)).alloc (.cells #[.int .i64 a2_0, .int .i64 a2_1, .string a2_2] 35)).cell? ⟨w.heap.size + 1, 0, none⟩ = some (.int .i64 a1_0) := by simp [go_sem]
  have k1_1 : (((w.alloc (.cells #[.int .i64 a0_0, .int .i64 a0_1, .int .i64 a0_2] 106)).alloc (.cells #[.int .i64 a1_0, .int .i64 a1_1, .bool a1_2] 63)).alloc (.cells #[.int .i64 a2_0, .int .i64 a2_1, .string a2_2] 35)).cell? ⟨w.heap.size + 1, 1, none⟩ = some (.int .i64 a1_1) := by simp [go_sem]
  have k1_2 : (((w.alloc (.cells #[.int .i64 a0_0, .int .i64 a0_1, .int .i64 a0_2] 106)).alloc (.cells #[.int .i64 a1_0, .int .i64 a1_1, .bool a1_2] 63)).alloc (.cells #[.int .i64 a2_0, .int .i64 a2_1, .string a2_2] 35)).cell? ⟨w.heap.size + 1, 2, none⟩ = some (.bool a1_2) := by simp [go_sem]
  have k2_0 : (((w.alloc (.cells #[.int .i64 a0_0, .int .i64 a0_1, .int .i64 a0_2] 106)).alloc (.cells #[.int .i64 a1_0, .int .i64 a1_1, .bool a1_2] 63)).alloc (.cells #[.int .i64 a2_0, .int .i64 a2_1, .string a2_2] 35)).cell? ⟨w.heap.size + 1 + 1, 0, none⟩ = some (.int .i64 a2_0) := by simp [go_sem]
  have k2_1 : (((w.alloc (.cells #[.int .i64 a0_0, .int .i64 a0_1, .int .i64 a0_2] 106)).alloc (.cells #[.int .i64 a1_0, .int .i64 a1_1, .bool a1_2] 63)).alloc (.cells #[.int .i64 a2_0, .int .i64 a2_1, .string a2_2] 35)).cell? ⟨w.heap.size + 1 + 1, 1, none⟩ = some (.int .i64 a2_1) := by simp [go_sem]
  have k2_2 : (((w.alloc (.cells #[.int .i64 a0_0, .int .i64 a0_1, .int .i64 a0_2] 106)).alloc (.cells #[.int .i64 a1_0, .int .i64 a1_1, .bool a1_2] 63)).alloc (.cells #[.int .i64 a2_0, .int .i64 a2_1, .string a2_2] 35)).cell? ⟨w.heap.size + 1 + 1, 2, none⟩ = some (.string a2_2) := by simp [go_sem]
  have lt0 : w.heap.size < (((w.alloc (.cells #[.int .i64 a0_0, .int .i64 a0_1, .int .i64 a0_2] 106)).alloc (.cells #[.int .i64 a1_0, .int .i64 a1_1, .bool a1_2] 63)).alloc (.cells #[.int .i64 a2_0, .int .i64 a2_1, .string a2_2] 35)).heap.size := by simp only [World.size_alloc]; omega
  have lt1 : w.heap.size + 1 < (((w.alloc (.cells #[.int .i64 a0_0, .int .i64 a0_1, .int .i64 a0_2] 106)).alloc (.cells #[.int .i64 a1_0, .int .i64 a1_1, .bool a1_2] 63)).alloc (.cells #[.int .i64 a2_0, .int .i64 a2_1, .string a2_2] 35)).heap.size := by simp only [World.size_alloc]; omega
  have lt2 : w.heap.size + 1 + 1 < (((w.alloc (.cells #[.int .i64 a0_0, .int .i64 a0_1, .int .i64 a0_2] 106)).alloc (.cells #[.int .i64 a1_0, .int .i64 a1_1, .bool a1_2] 63)).alloc (.cells #[.int .i64 a2_0, .int .i64 a2_1, .string a2_2] 35)).heap.size := by simp only [World.size_alloc]; omega
  generalize ((w.alloc (.cells #[.int .i64 a0_0, .int .i64 a0_1, .int .i64 a0_2] 106)).alloc (.cells #[.int .i64 a1_0, .int .i64 a1_1, .bool a1_2] 63)).alloc (.cells #[.int .i64 a2_0, .int .i64 a2_1, .string a2_2] 35) = W at *
  clear lt0 lt1 lt2
  refine (value_Has.calls k _ _ _ _ _ _ false _ H1.out (HG.out.below hB.out)).mono ?_
  rintro e w1 ⟨rfl, hbn⟩
  replace k0_0 := pw_cell_below hbn k0_0
  replace k0_1 := pw_cell_below hbn k0_1
  replace k0_2 := pw_cell_below hbn k0_2
  replace k1_0 := pw_cell_below hbn k1_0
  replace k1_1 := pw_cell_below hbn k1_1
  replace k1_2 := pw_cell_below hbn k1_2
  replace k2_0 := pw_cell_below hbn k2_0
  replace k2_1 := pw_cell_below hbn k2_1
  replace k2_2 := pw_cell_below hbn k2_2
  replace hB := Lib.hid (below_then hB.out hB.out.size hbn)
  clear hbn
  go_wp2_with fail
  refine (value_Wide.calls k _ _ _ true _ H2.out).mono ?_
  rintro e w2 ⟨rfl, hbn⟩
  replace k0_0 := pw_cell_below hbn k0_0
  replace k0_1 := pw_cell_below hbn k0_1
  replace k0_2 := pw_cell_below hbn k0_2
  replace k1_0 := pw_cell_below hbn k1_0
  replace k1_1 := pw_cell_below hbn k1_1
  replace k1_2 := pw_cell_below hbn k1_2
  replace k2_0 := pw_cell_below hbn k2_0
  replace k2_1 := pw_cell_below hbn k2_1
  replace k2_2 := pw_cell_below hbn k2_2
  replace hB := Lib.hid (below_then hB.out hB.out.size hbn)
  clear hbn
  go_wp2_with fail
  refine (decimal_Fits.calls _ _ r _ H3.out (HG.out.below hB.out)).mono ?_
  rintro e w' ⟨rfl, ⟨nd, rfl⟩⟩
  go_wp2
  go_ret
  exact ⟨rfl, pw_below_drewN hB.out nd⟩
theorem partition_spec_isValue.calls (k : Nat) (a0_0 a0_1 a0_2 : Int) (a1_0 a1_1 : Int) (a1_2 : Bool) (a2_0 a2_1 : Int) (a2_2 : ByteArray) (r : Bool) (w : World) (h : partition_spec_isValue.f k a0_0 a0_1 a0_2 a1_0 a1_1 a1_2 a2_0 a2_1 a2_2 = some r) (hG : Laid w) :
    Calls Tryz.prog 77 #[.agg #[.int .i64 a0_0, .int .i64 a0_1, .int .i64 a0_2], .agg #[.int .i64 a1_0, .int .i64 a1_1, .bool a1_2], .agg #[.int .i64 a2_0, .int .i64 a2_1, .string a2_2]] w fun e w' => e = .returned (.bool r) ∧ Below w.heap.size w w' := by
  unfold partition_spec_isValue.f at h
  obtain ⟨b, hb, h⟩ := Option.bind_eq_some_iff.mp h
  cases b with
  | true =>
    rw [if_pos rfl] at h
    obtain rfl := Option.some.inj h
    exact partition_spec_isValue.yes k _ _ _ _ _ _ _ _ _ w hG (Lib.hid hb)
  | false =>
    rw [if_neg (by decide)] at h
    cases h1 : (a1_0 == 2) with
    | false =>
      rw [h1, if_neg (by decide)] at h
      obtain rfl := Option.some.inj h
      exact partition_spec_isValue.no1 k _ _ _ _ _ _ _ _ _ w hG (Lib.hid hb) h1
    | true =>
      rw [h1, if_pos rfl] at h
      cases h2 : (a2_0 == 2) with
      | false =>
        rw [h2, if_neg (by decide)] at h
        obtain rfl := Option.some.inj h
        exact partition_spec_isValue.no2 k _ _ _ _ _ _ _ _ _ w hG (Lib.hid hb) h1 h2
      | true =>
        rw [h2, if_pos rfl] at h
        obtain ⟨c, hc, h⟩ := Option.bind_eq_some_iff.mp h
        cases c with
        | false =>
          rw [if_neg (by decide)] at h
          obtain rfl := Option.some.inj h
          exact partition_spec_isValue.no3 k _ _ _ _ _ _ _ _ _ w hG (Lib.hid hb) h1 h2 (Lib.hid hc)
        | true =>
          rw [if_pos rfl] at h
          exact partition_spec_isValue.last k _ _ _ _ _ _ _ _ _ w hG (Lib.hid hb) h1 h2 (Lib.hid hc) r (Lib.hid h)
end Go.Proofs.YteflfnjljjianaaGreatDoor.Qx
namespace Go.Proofs.YteflfnjljjianaaGreatDoor.Qx
open Go.RowKit Go.Proofs.YteflfnjljjianaaGreatDoorW.PrintWords Go.Proofs.YteflfnjljjianaaGreatDoorW.PrintLast Go.Proofs.YteflfnjljjianaaGreatDoorW.PrintMore
attribute [local go_sem] max2_int min2_int max_two min_two
set_option linter.unusedVariables false
set_option linter.unusedSimpArgs false
attribute [local go_sem high] eqA35
def partition_spec_isBucket.f (a0_0 a0_1 a0_2 : Int) (a1_0 a1_1 : Int) (a1_2 : Bool) (a2_0 a2_1 : Int) (a2_2 : ByteArray) : Option Bool :=
  if (a2_0 == 2 && a2_2.toList.isEmpty) = true ∧ 0 ≤ a2_1 ∧ a2_1 < wrap64 (a0_2 * 1000000) then decimal_Fits.f a2_1 0 else some false
set_option maxRecDepth 100000 in
set_option maxHeartbeats 4000000 in
theorem partition_spec_isBucket.no1 (a0_0 a0_1 a0_2 : Int) (a1_0 a1_1 : Int) (a1_2 : Bool) (a2_0 a2_1 : Int) (a2_2 : ByteArray) (w : World) (hG : Laid w) (b0 : (a2_0 == 2 && a2_2.toList.isEmpty) = false) :
    Calls Tryz.prog 80 #[.agg #[.int .i64 a0_0, .int .i64 a0_1, .int .i64 a0_2], .agg #[.int .i64 a1_0, .int .i64 a1_1, .bool a1_2], .agg #[.int .i64 a2_0, .int .i64 a2_1, .string a2_2]] w fun e w' => e = .returned (.bool false) ∧ Below w.heap.size w w' := by
  have hu106 := Tryz.underlying106
  have hu63 := Tryz.underlying63
  have hu35 := Tryz.underlying35
  have HG := Lib.hid hG
  clear hG
  go_enter Tryz.func80, Tryz.ntmps80
  go_wp2
  have hB := Lib.hid ((((Below.refl _ w).alloc (Nat.le_refl _) (.cells #[.int .i64 a0_0, .int .i64 a0_1, .int .i64 a0_2] 106)).alloc (by simp only [World.size_alloc]; omega) (.cells #[.int .i64 a1_0, .int .i64 a1_1, .bool a1_2] 63)).alloc (by simp only [World.size_alloc]; omega) (.cells #[.int .i64 a2_0, .int .i64 a2_1, .string a2_2] 35))
  have k0_0 : (((w.alloc (.cells #[.int .i64 a0_0, .int .i64 a0_1, .int .i64 a0_2] 106)).alloc (.cells #[.int .i64 a1_0, .int .i64 a1_1, .bool a1_2] 63)).alloc (.cells #[.int .i64 a2_0, .int .i64 a2_1, .string a2_2] 35)).cell? ⟨w.heap.size, 0, none⟩ = some (.int .i64 a0_0) := by simp [go_sem]
  have k0_1 : (((w.alloc (.cells #[.int .i64 a0_0, .int .i64 a0_1, .int .i64 a0_2] 106)).alloc (.cells #[.int .i64 a1_0, .int .i64 a1_1, .bool a1_2] 63)).alloc (.cells #[.int .i64 a2_0, .int .i64 a2_1, .string a2_2] 35)).cell? ⟨w.heap.size, 1, none⟩ = some (.int .i64 a0_1) := by simp [go_sem]
  have k0_2 : (((w.alloc (.cells #[.int .i64 a0_0, .int .i64 a0_1, .int .i64 a0_2] 106)).alloc (.cells #[.int .i64 a1_0, .int .i64 a1_1, .bool a1_2] 63)).alloc (.cells #[.int .i64 a2_0, .int .i64 a2_1, .string a2_2] 35)).cell? ⟨w.heap.size, 2, none⟩ = some (.int .i64 a0_2) := by simp [go_sem]
  have k1_0 : (((w.alloc (.cells #[.int .i64 a0_0, .int .i64 a0_1, .int .i64 a0_2] 106)).alloc (.cells #[.int .i64 a1_0, .int .i64 a1_1, .bool a1_2] 63)).alloc (.cells #[.int .i64 a2_0, .int .i64 a2_1, .string a2_2] 35)).cell? ⟨w.heap.size + 1, 0, none⟩ = some (.int .i64 a1_0) := by simp [go_sem]
  have k1_1 : (((w.alloc (.cells #[.int .i64 a0_0, .int .i64 a0_1, .int .i64 a0_2] 106)).alloc (.cells #[.int .i64 a1_0, .int .i64 a1_1, .bool a1_2] 63)).alloc (.cells #[.int .i64 a2_0, .int .i64 a2_1, .string a2_2] 35)).cell? ⟨w.heap.size + 1, 1, none⟩ = some (.int .i64 a1_1) := by simp [go_sem]
  have k1_2 : (((w.alloc (.cells #[.int .i64 a0_0, .int .i64 a0_1, .int .i64 a0_2] 106)).alloc (.cells #[.int .i64 a1_0, .int .i64 a1_1, .bool a1_2] 63)).alloc (.cells #[.int .i64 a2_0, .int .i64 a2_1, .string a2_2] 35)).cell? ⟨w.heap.size + 1, 2, none⟩ = some (.bool a1_2) := by simp [go_sem]
  have k2_0 : (((w.alloc (.cells #[.int .i64 a0_0, .int .i64 a0_1, .int .i64 a0_2] 106)).alloc (.cells #[.int .i64 a1_0, .int .i64 a1_1, .bool a1_2] 63)).alloc (.cells #[.int .i64 a2_0, .int .i64 a2_1, .string a2_2] 35)).cell? ⟨w.heap.size + 1 + 1, 0, none⟩ = some (.int .i64 a2_0) := by simp [go_sem]
  have k2_1 : (((w.alloc (.cells #[.int .i64 a0_0, .int .i64 a0_1, .int .i64 a0_2] 106)).alloc (.cells #[.int .i64 a1_0, .int .i64 a1_1, .bool a1_2] 63)).alloc (.cells #[.int .i64 a2_0, .int .i64 a2_1, .string a2_2] 35)).cell? ⟨w.heap.size + 1 + 1, 1, none⟩ = some (.int .i64 a2_1) := by simp [go_sem]
  have k2_2 : (((w.alloc (.cells #[.int .i64 a0_0, .int .i64 a0_1, .int .i64 a0_2] 106)).alloc (.cells #[.int .i64 a1_0, .int .i64 a1_1, .bool a1_2] 63)).alloc (.cells #[.int .i64 a2_0, .int .i64 a2_1, .string a2_2] 35)).cell? ⟨w.heap.size + 1 + 1, 2, none⟩ = some (.string a2_2) := by simp [go_sem]
  have lt0 : w.heap.size < (((w.alloc (.cells #[.int .i64 a0_0, .int .i64 a0_1, .int .i64 a0_2] 106)).alloc (.cells #[.int .i64 a1_0, .int .i64 a1_1, .bool a1_2] 63)).alloc (.cells #[.int .i64 a2_0, .int .i64 a2_1, .string a2_2] 35)).heap.size := by simp only [World.size_alloc]; omega
  have lt1 : w.heap.size + 1 < (((w.alloc (.cells #[.int .i64 a0_0, .int .i64 a0_1, .int .i64 a0_2] 106)).alloc (.cells #[.int .i64 a1_0, .int .i64 a1_1, .bool a1_2] 63)).alloc (.cells #[.int .i64 a2_0, .int .i64 a2_1, .string a2_2] 35)).heap.size := by simp only [World.size_alloc]; omega
  have lt2 : w.heap.size + 1 + 1 < (((w.alloc (.cells #[.int .i64 a0_0, .int .i64 a0_1, .int .i64 a0_2] 106)).alloc (.cells #[.int .i64 a1_0, .int .i64 a1_1, .bool a1_2] 63)).alloc (.cells #[.int .i64 a2_0, .int .i64 a2_1, .string a2_2] 35)).heap.size := by simp only [World.size_alloc]; omega
  generalize ((w.alloc (.cells #[.int .i64 a0_0, .int .i64 a0_1, .int .i64 a0_2] 106)).alloc (.cells #[.int .i64 a1_0, .int .i64 a1_1, .bool a1_2] 63)).alloc (.cells #[.int .i64 a2_0, .int .i64 a2_1, .string a2_2] 35) = W at *
  clear lt0 lt1 lt2
  replace k0_0 := cell_regrown k0_0
  replace k0_1 := cell_regrown k0_1
  replace k0_2 := cell_regrown k0_2
  replace k1_0 := cell_regrown k1_0
  replace k1_1 := cell_regrown k1_1
  replace k1_2 := cell_regrown k1_2
  replace k2_0 := cell_regrown k2_0
  replace k2_1 := cell_regrown k2_1
  replace k2_2 := cell_regrown k2_2
  refine wp_region_quiet_below (by kernel_rfl) (by kernel_rfl) ?_
  repeat (first | go_big_quiet_step (first | exact Calls.regrown_of (partition_num.calls _ _ _ _ _ rfl)) | quiet_step (first | exact Calls.regrown_of (partition_num.calls _ _ _ _ _ rfl)))
  refine wpQuiet_nil ?_
  intro _ hw'
  obtain ⟨⟨dq, osq⟩, hw''⟩ := hw'
  subst hw''
  have hD := Lib.hid (below_regrown W dq osq)
  go_wp2
  go_ret
  exact ⟨rfl, below_then hB.out hB.out.size hD.out⟩
set_option maxRecDepth 100000 in
set_option maxHeartbeats 4000000 in
theorem partition_spec_isBucket.no2 (a0_0 a0_1 a0_2 : Int) (a1_0 a1_1 : Int) (a1_2 : Bool) (a2_0 a2_1 : Int) (a2_2 : ByteArray) (w : World) (hG : Laid w) (b0 : (a2_0 == 2 && a2_2.toList.isEmpty) = true) (b1 : decide (0 ≤ a2_1) = false) :
    Calls Tryz.prog 80 #[.agg #[.int .i64 a0_0, .int .i64 a0_1, .int .i64 a0_2], .agg #[.int .i64 a1_0, .int .i64 a1_1, .bool a1_2], .agg #[.int .i64 a2_0, .int .i64 a2_1, .string a2_2]] w fun e w' => e = .returned (.bool false) ∧ Below w.heap.size w w' := by
  have hu106 := Tryz.underlying106
  have hu63 := Tryz.underlying63
  have hu35 := Tryz.underlying35
  have HG := Lib.hid hG
  clear hG
  go_enter Tryz.func80, Tryz.ntmps80
  go_wp2
  have hB := Lib.hid ((((Below.refl _ w).alloc (Nat.le_refl _) (.cells #[.int .i64 a0_0, .int .i64 a0_1, .int .i64 a0_2] 106)).alloc (by simp only [World.size_alloc]; omega) (.cells #[.int .i64 a1_0, .int .i64 a1_1, .bool a1_2] 63)).alloc (by simp only [World.size_alloc]; omega) (.cells #[.int .i64 a2_0, .int .i64 a2_1, .string a2_2] 35))
  have k0_0 : (((w.alloc (.cells #[.int .i64 a0_0, .int .i64 a0_1, .int .i64 a0_2] 106)).alloc (.cells #[.int .i64 a1_0, .int .i64 a1_1, .bool a1_2] 63)).alloc (.cells #[.int .i64 a2_0, .int .i64 a2_1, .string a2_2] 35)).cell? ⟨w.heap.size, 0, none⟩ = some (.int .i64 a0_0) := by simp [go_sem]
  have k0_1 : (((w.alloc (.cells #[.int .i64 a0_0, .int .i64 a0_1, .int .i64 a0_2] 106)).alloc (.cells #[.int .i64 a1_0, .int .i64 a1_1, .bool a1_2] 63)).alloc (.cells #[.int .i64 a2_0, .int .i64 a2_1, .string a2_2] 35)).cell? ⟨w.heap.size, 1, none⟩ = some (.int .i64 a0_1) := by simp [go_sem]
  have k0_2 : (((w.alloc (.cells #[.int .i64 a0_0, .int .i64 a0_1, .int .i64 a0_2] 106)).alloc (.cells #[.int .i64 a1_0, .int .i64 a1_1, .bool a1_2] 63)).alloc (.cells #[.int .i64 a2_0, .int .i64 a2_1, .string a2_2] 35)).cell? ⟨w.heap.size, 2, none⟩ = some (.int .i64 a0_2) := by simp [go_sem]
  have k1_0 : (((w.alloc (.cells #[.int .i64 a0_0, .int .i64 a0_1, .int .i64 a0_2] 106)).alloc (.cells #[.int .i64 a1_0, .int .i64 a1_1, .bool a1_2] 63)).alloc (.cells #[.int .i64 a2_0, .int .i64 a2_1, .string a2_2] 35)).cell? ⟨w.heap.size + 1, 0, none⟩ = some (.int .i64 a1_0) := by simp [go_sem]
  have k1_1 : (((w.alloc (.cells #[.int .i64 a0_0, .int .i64 a0_1, .int .i64 a0_2] 106)).alloc (.cells #[.int .i64 a1_0, .int .i64 a1_1, .bool a1_2] 63)).alloc (.cells #[.int .i64 a2_0, .int .i64 a2_1, .string a2_2] 35)).cell? ⟨w.heap.size + 1, 1, none⟩ = some (.int .i64 a1_1) := by simp [go_sem]
  have k1_2 : (((w.alloc (.cells #[.int .i64 a0_0, .int .i64 a0_1, .int .i64 a0_2] 106)).alloc (.cells #[.int .i64 a1_0, .int .i64 a1_1, .bool a1_2] 63)).alloc (.cells #[.int .i64 a2_0, .int .i64 a2_1, .string a2_2] 35)).cell? ⟨w.heap.size + 1, 2, none⟩ = some (.bool a1_2) := by simp [go_sem]
  have k2_0 : (((w.alloc (.cells #[.int .i64 a0_0, .int .i64 a0_1, .int .i64 a0_2] 106)).alloc (.cells #[.int .i64 a1_0, .int .i64 a1_1, .bool a1_2] 63)).alloc (.cells #[.int .i64 a2_0, .int .i64 a2_1, .string a2_2] 35)).cell? ⟨w.heap.size + 1 + 1, 0, none⟩ = some (.int .i64 a2_0) := by simp [go_sem]
  have k2_1 : (((w.alloc (.cells #[.int .i64 a0_0, .int .i64 a0_1, .int .i64 a0_2] 106)).alloc (.cells #[.int .i64 a1_0, .int .i64 a1_1, .bool a1_2] 63)).alloc (.cells #[.int .i64 a2_0, .int .i64 a2_1, .string a2_2] 35)).cell? ⟨w.heap.size + 1 + 1, 1, none⟩ = some (.int .i64 a2_1) := by simp [go_sem]
  have k2_2 : (((w.alloc (.cells #[.int .i64 a0_0, .int .i64 a0_1, .int .i64 a0_2] 106)).alloc (.cells #[.int .i64 a1_0, .int .i64 a1_1, .bool a1_2] 63)).alloc (.cells #[.int .i64 a2_0, .int .i64 a2_1, .string a2_2] 35)).cell? ⟨w.heap.size + 1 + 1, 2, none⟩ = some (.string a2_2) := by simp [go_sem]
  have lt0 : w.heap.size < (((w.alloc (.cells #[.int .i64 a0_0, .int .i64 a0_1, .int .i64 a0_2] 106)).alloc (.cells #[.int .i64 a1_0, .int .i64 a1_1, .bool a1_2] 63)).alloc (.cells #[.int .i64 a2_0, .int .i64 a2_1, .string a2_2] 35)).heap.size := by simp only [World.size_alloc]; omega
  have lt1 : w.heap.size + 1 < (((w.alloc (.cells #[.int .i64 a0_0, .int .i64 a0_1, .int .i64 a0_2] 106)).alloc (.cells #[.int .i64 a1_0, .int .i64 a1_1, .bool a1_2] 63)).alloc (.cells #[.int .i64 a2_0, .int .i64 a2_1, .string a2_2] 35)).heap.size := by simp only [World.size_alloc]; omega
  have lt2 : w.heap.size + 1 + 1 < (((w.alloc (.cells #[.int .i64 a0_0, .int .i64 a0_1, .int .i64 a0_2] 106)).alloc (.cells #[.int .i64 a1_0, .int .i64 a1_1, .bool a1_2] 63)).alloc (.cells #[.int .i64 a2_0, .int .i64 a2_1, .string a2_2] 35)).heap.size := by simp only [World.size_alloc]; omega
  generalize ((w.alloc (.cells #[.int .i64 a0_0, .int .i64 a0_1, .int .i64 a0_2] 106)).alloc (.cells #[.int .i64 a1_0, .int .i64 a1_1, .bool a1_2] 63)).alloc (.cells #[.int .i64 a2_0, .int .i64 a2_1, .string a2_2] 35) = W at *
  clear lt0 lt1 lt2
  replace k0_0 := cell_regrown k0_0
  replace k0_1 := cell_regrown k0_1
  replace k0_2 := cell_regrown k0_2
  replace k1_0 := cell_regrown k1_0
  replace k1_1 := cell_regrown k1_1
  replace k1_2 := cell_regrown k1_2
  replace k2_0 := cell_regrown k2_0
  replace k2_1 := cell_regrown k2_1
  replace k2_2 := cell_regrown k2_2
  refine wp_region_quiet_below (by kernel_rfl) (by kernel_rfl) ?_
  repeat (first | go_big_quiet_step (first | exact Calls.regrown_of (partition_num.calls _ _ _ _ _ rfl)) | quiet_step (first | exact Calls.regrown_of (partition_num.calls _ _ _ _ _ rfl)))
  refine wpQuiet_nil ?_
  intro _ hw'
  obtain ⟨⟨dq, osq⟩, hw''⟩ := hw'
  subst hw''
  have hD := Lib.hid (below_regrown W dq osq)
  go_wp2
  go_ret
  exact ⟨rfl, below_then hB.out hB.out.size hD.out⟩
set_option maxRecDepth 100000 in
set_option maxHeartbeats 4000000 in
theorem partition_spec_isBucket.no3 (a0_0 a0_1 a0_2 : Int) (a1_0 a1_1 : Int) (a1_2 : Bool) (a2_0 a2_1 : Int) (a2_2 : ByteArray) (w : World) (hG : Laid w) (b0 : (a2_0 == 2 && a2_2.toList.isEmpty) = true) (b1 : decide (0 ≤ a2_1) = true) (b2 : decide (a2_1 < wrap64 (a0_2 * 1000000)) = false) :
    Calls Tryz.prog 80 #[.agg #[.int .i64 a0_0, .int .i64 a0_1, .int .i64 a0_2], .agg #[.int .i64 a1_0, .int .i64 a1_1, .bool a1_2], .agg #[.int .i64 a2_0, .int .i64 a2_1, .string a2_2]] w fun e w' => e = .returned (.bool false) ∧ Below w.heap.size w w' := by
  have hu106 := Tryz.underlying106
  have hu63 := Tryz.underlying63
  have hu35 := Tryz.underlying35
  have HG := Lib.hid hG
  clear hG
  go_enter Tryz.func80, Tryz.ntmps80
  go_wp2
  have hB := Lib.hid ((((Below.refl _ w).alloc (Nat.le_refl _) (.cells #[.int .i64 a0_0, .int .i64 a0_1, .int .i64 a0_2] 106)).alloc (by simp only [World.size_alloc]; omega) (.cells #[.int .i64 a1_0, .int .i64 a1_1, .bool a1_2] 63)).alloc (by simp only [World.size_alloc]; omega) (.cells #[.int .i64 a2_0, .int .i64 a2_1, .string a2_2] 35))
  have k0_0 : (((w.alloc (.cells #[.int .i64 a0_0, .int .i64 a0_1, .int .i64 a0_2] 106)).alloc (.cells #[.int .i64 a1_0, .int .i64 a1_1, .bool a1_2] 63)).alloc (.cells #[.int .i64 a2_0, .int .i64 a2_1, .string a2_2] 35)).cell? ⟨w.heap.size, 0, none⟩ = some (.int .i64 a0_0) := by simp [go_sem]
  have k0_1 : (((w.alloc (.cells #[.int .i64 a0_0, .int .i64 a0_1, .int .i64 a0_2] 106)).alloc (.cells #[.int .i64 a1_0, .int .i64 a1_1, .bool a1_2] 63)).alloc (.cells #[.int .i64 a2_0, .int .i64 a2_1, .string a2_2] 35)).cell? ⟨w.heap.size, 1, none⟩ = some (.int .i64 a0_1) := by simp [go_sem]
  have k0_2 : (((w.alloc (.cells #[.int .i64 a0_0, .int .i64 a0_1, .int .i64 a0_2] 106)).alloc (.cells #[.int .i64 a1_0, .int .i64 a1_1, .bool a1_2] 63)).alloc (.cells #[.int .i64 a2_0, .int .i64 a2_1, .string a2_2] 35)).cell? ⟨w.heap.size, 2, none⟩ = some (.int .i64 a0_2) := by simp [go_sem]
  have k1_0 : (((w.alloc (.cells #[.int .i64 a0_0, .int .i64 a0_1, .int .i64 a0_2] 106)).alloc (.cells #[.int .i64 a1_0, .int .i64 a1_1, .bool a1_2] 63)).alloc (.cells #[.int .i64 a2_0, .int .i64 a2_1, .string a2_2] 35)).cell? ⟨w.heap.size + 1, 0, none⟩ = some (.int .i64 a1_0) := by simp [go_sem]
  have k1_1 : (((w.alloc (.cells #[.int .i64 a0_0, .int .i64 a0_1, .int .i64 a0_2] 106)).alloc (.cells #[.int .i64 a1_0, .int .i64 a1_1, .bool a1_2] 63)).alloc (.cells #[.int .i64 a2_0, .int .i64 a2_1, .string a2_2] 35)).cell? ⟨w.heap.size + 1, 1, none⟩ = some (.int .i64 a1_1) := by simp [go_sem]
  have k1_2 : (((w.alloc (.cells #[.int .i64 a0_0, .int .i64 a0_1, .int .i64 a0_2] 106)).alloc (.cells #[.int .i64 a1_0, .int .i64 a1_1, .bool a1_2] 63)).alloc (.cells #[.int .i64 a2_0, .int .i64 a2_1, .string a2_2] 35)).cell? ⟨w.heap.size + 1, 2, none⟩ = some (.bool a1_2) := by simp [go_sem]
  have k2_0 : (((w.alloc (.cells #[.int .i64 a0_0, .int .i64 a0_1, .int .i64 a0_2] 106)).alloc (.cells #[.int .i64 a1_0, .int .i64 a1_1, .bool a1_2] 63)).alloc (.cells #[.int .i64 a2_0, .int .i64 a2_1, .string a2_2] 35)).cell? ⟨w.heap.size + 1 + 1, 0, none⟩ = some (.int .i64 a2_0) := by simp [go_sem]
  have k2_1 : (((w.alloc (.cells #[.int .i64 a0_0, .int .i64 a0_1, .int .i64 a0_2] 106)).alloc (.cells #[.int .i64 a1_0, .int .i64 a1_1, .bool a1_2] 63)).alloc (.cells #[.int .i64 a2_0, .int .i64 a2_1, .string a2_2] 35)).cell? ⟨w.heap.size + 1 + 1, 1, none⟩ = some (.int .i64 a2_1) := by simp [go_sem]
  have k2_2 : (((w.alloc (.cells #[.int .i64 a0_0, .int .i64 a0_1, .int .i64 a0_2] 106)).alloc (.cells #[.int .i64 a1_0, .int .i64 a1_1, .bool a1_2] 63)).alloc (.cells #[.int .i64 a2_0, .int .i64 a2_1, .string a2_2] 35)).cell? ⟨w.heap.size + 1 + 1, 2, none⟩ = some (.string a2_2) := by simp [go_sem]
  have lt0 : w.heap.size < (((w.alloc (.cells #[.int .i64 a0_0, .int .i64 a0_1, .int .i64 a0_2] 106)).alloc (.cells #[.int .i64 a1_0, .int .i64 a1_1, .bool a1_2] 63)).alloc (.cells #[.int .i64 a2_0, .int .i64 a2_1, .string a2_2] 35)).heap.size := by simp only [World.size_alloc]; omega
  have lt1 : w.heap.size + 1 < (((w.alloc (.cells #[.int .i64 a0_0, .int .i64 a0_1, .int .i64 a0_2] 106)).alloc (.cells #[.int .i64 a1_0, .int .i64 a1_1, .bool a1_2] 63)).alloc (.cells #[.int .i64 a2_0, .int .i64 a2_1, .string a2_2] 35)).heap.size := by simp only [World.size_alloc]; omega
  have lt2 : w.heap.size + 1 + 1 < (((w.alloc (.cells #[.int .i64 a0_0, .int .i64 a0_1, .int .i64 a0_2] 106)).alloc (.cells #[.int .i64 a1_0, .int .i64 a1_1, .bool a1_2] 63)).alloc (.cells #[.int .i64 a2_0, .int .i64 a2_1, .string a2_2] 35)).heap.size := by simp only [World.size_alloc]; omega
  generalize ((w.alloc (.cells #[.int .i64 a0_0, .int .i64 a0_1, .int .i64 a0_2] 106)).alloc (.cells #[.int .i64 a1_0, .int .i64 a1_1, .bool a1_2] 63)).alloc (.cells #[.int .i64 a2_0, .int .i64 a2_1, .string a2_2] 35) = W at *
  clear lt0 lt1 lt2
  replace k0_0 := cell_regrown k0_0
  replace k0_1 := cell_regrown k0_1
  replace k0_2 := cell_regrown k0_2
  replace k1_0 := cell_regrown k1_0
  replace k1_1 := cell_regrown k1_1
  replace k1_2 := cell_regrown k1_2
  replace k2_0 := cell_regrown k2_0
  replace k2_1 := cell_regrown k2_1
  replace k2_2 := cell_regrown k2_2
  refine wp_region_quiet_below (by kernel_rfl) (by kernel_rfl) ?_
  repeat (first | go_big_quiet_step (first | exact Calls.regrown_of (partition_num.calls _ _ _ _ _ rfl)) | quiet_step (first | exact Calls.regrown_of (partition_num.calls _ _ _ _ _ rfl)))
  refine wpQuiet_nil ?_
  intro _ hw'
  obtain ⟨⟨dq, osq⟩, hw''⟩ := hw'
  subst hw''
  have hD := Lib.hid (below_regrown W dq osq)
  go_wp2
  go_ret
  exact ⟨rfl, below_then hB.out hB.out.size hD.out⟩
set_option maxRecDepth 100000 in
set_option maxHeartbeats 4000000 in
theorem partition_spec_isBucket.last (a0_0 a0_1 a0_2 : Int) (a1_0 a1_1 : Int) (a1_2 : Bool) (a2_0 a2_1 : Int) (a2_2 : ByteArray) (w : World) (hG : Laid w) (b0 : (a2_0 == 2 && a2_2.toList.isEmpty) = true) (b1 : decide (0 ≤ a2_1) = true) (b2 : decide (a2_1 < wrap64 (a0_2 * 1000000)) = true) (r : Bool) (H3 : Hid (decimal_Fits.f a2_1 0 = some r)) :
    Calls Tryz.prog 80 #[.agg #[.int .i64 a0_0, .int .i64 a0_1, .int .i64 a0_2], .agg #[.int .i64 a1_0, .int .i64 a1_1, .bool a1_2], .agg #[.int .i64 a2_0, .int .i64 a2_1, .string a2_2]] w fun e w' => e = .returned (.bool r) ∧ Below w.heap.size w w' := by
  have hu106 := Tryz.underlying106
  have hu63 := Tryz.underlying63
  have hu35 := Tryz.underlying35
  have HG := Lib.hid hG
  clear hG
  go_enter Tryz.func80, Tryz.ntmps80
  go_wp2
  have hB := Lib.hid ((((Below.refl _ w).alloc (Nat.le_refl _) (.cells #[.int .i64 a0_0, .int .i64 a0_1, .int .i64 a0_2] 106)).alloc (by simp only [World.size_alloc]; omega) (.cells #[.int .i64 a1_0, .int .i64 a1_1, .bool a1_2] 63)).alloc (by simp only [World.size_alloc]; omega) (.cells #[.int .i64 a2_0, .int .i64 a2_1, .string a2_2] 35))
  have k0_0 : (((w.alloc (.cells #[.int .i64 a0_0, .int .i64 a0_1, .int .i64 a0_2] 106)).alloc (.cells #[.int .i64 a1_0, .int .i64 a1_1, .bool a1_2] 63)).alloc (.cells #[.int .i64 a2_0, .int .i64 a2_1, .string a2_2] 35)).cell? ⟨w.heap.size, 0, none⟩ = some (.int .i64 a0_0) := by simp [go_sem]
  have k0_1 : (((w.alloc (.cells #[.int .i64 a0_0, .int .i64 a0_1, .int .i64 a0_2] 106)).alloc (.cells #[.int .i64 a1_0, .int .i64 a1_1, .bool a1_2] 63)).alloc (.cells #[.int .i64 a2_0, .int .i64 a2_1, .string a2_2] 35)).cell? ⟨w.heap.size, 1, none⟩ = some (.int .i64 a0_1) := by simp [go_sem]
  have k0_2 : (((w.alloc (.cells #[.int .i64 a0_0, .int .i64 a0_1, .int .i64 a0_2] 106)).alloc (.cells #[.int .i64 a1_0, .int .i64 a1_1, .bool a1_2] 63)).alloc (.cells #[.int .i64 a2_0, .int .i64 a2_1, .string a2_2] 35)).cell? ⟨w.heap.size, 2, none⟩ = some (.int .i64 a0_2) := by simp [go_sem]
  have k1_0 : (((w.alloc (.cells #[.int .i64 a0_0, .int .i64 a0_1, .int .i64 a0_2] 106)).alloc (.cells #[.int .i64 a1_0, .int .i64 a1_1, .bool a1_2] 63)).alloc (.cells #[.int .i64 a2_0, .int .i64 a2_1, .string a2_2] 35)).cell? ⟨w.heap.size + 1, 0, none⟩ = some (.int .i64 a1_0) := by simp [go_sem]
  have k1_1 : (((w.alloc (.cells #[.int .i64 a0_0, .int .i64 a0_1, .int .i64 a0_2] 106)).alloc (.cells #[.int .i64 a1_0, .int .i64 a1_1, .bool a1_2] 63)).alloc (.cells #[.int .i64 a2_0, .int .i64 a2_1, .string a2_2] 35)).cell? ⟨w.heap.size + 1, 1, none⟩ = some (.int .i64 a1_1) := by simp [go_sem]
  have k1_2 : (((w.alloc (.cells #[.int .i64 a0_0, .int .i64 a0_1, .int .i64 a0_2] 106)).alloc (.cells #[.int .i64 a1_0, .int .i64 a1_1, .bool a1_2] 63)).alloc (.cells #[.int .i64 a2_0, .int .i64 a2_1, .string a2_2] 35)).cell? ⟨w.heap.size + 1, 2, none⟩ = some (.bool a1_2) := by simp [go_sem]
  have k2_0 : (((w.alloc (.cells #[.int .i64 a0_0, .int .i64 a0_1, .int .i64 a0_2] 106)).alloc (.cells #[.int .i64 a1_0, .int .i64 a1_1, .bool a1_2] 63)).alloc (.cells #[.int .i64 a2_0, .int .i64 a2_1, .string a2_2] 35)).cell? ⟨w.heap.size + 1 + 1, 0, none⟩ = some (.int .i64 a2_0) := by simp [go_sem]
  have k2_1 : (((w.alloc (.cells #[.int .i64 a0_0, .int .i64 a0_1, .int .i64 a0_2] 106)).alloc (.cells #[.int .i64 a1_0, .int .i64 a1_1, .bool a1_2] 63)).alloc (.cells #[.int .i64 a2_0, .int .i64 a2_1, .string a2_2] 35)).cell? ⟨w.heap.size + 1 + 1, 1, none⟩ = some (.int .i64 a2_1) := by simp [go_sem]
  have k2_2 : (((w.alloc (.cells #[.int .i64 a0_0, .int .i64 a0_1, .int .i64 a0_2] 106)).alloc (.cells #[.int .i64 a1_0, .int .i64 a1_1, .bool a1_2] 63)).alloc (.cells #[.int .i64 a2_0, .int .i64 a2_1, .string a2_2] 35)).cell? ⟨w.heap.size + 1 + 1, 2, none⟩ = some (.string a2_2) := by simp [go_sem]
  have lt0 : w.heap.size < (((w.alloc (.cells #[.int .i64 a0_0, .int .i64 a0_1, .int .i64 a0_2] 106)).alloc (.cells #[.int .i64 a1_0, .int .i64 a1_1, .bool a1_2] 63)).alloc (.cells #[.int .i64 a2_0, .int .i64 a2_1, .string a2_2] 35)).heap.size := by simp only [World.size_alloc]; omega
  have lt1 : w.heap.size + 1 < (((w.alloc (.cells #[.int .i64 a0_0, .int .i64 a0_1, .int .i64 a0_2] 106)).alloc (.cells #[.int .i64 a1_0, .int .i64 a1_1, .bool a1_2] 63)).alloc (.cells #[.int .i64 a2_0, .int .i64 a2_1, .string a2_2] 35)).heap.size := by simp only [World.size_alloc]; omega
  have lt2 : w.heap.size + 1 + 1 < (((w.alloc (.cells #[.int .i64 a0_0, .int .i64 a0_1, .int .i64 a0_2] 106)).alloc (.cells #[.int .i64 a1_0, .int .i64 a1_1, .bool a1_2] 63)).alloc (.cells #[.int .i64 a2_0, .int .i64 a2_1, .string a2_2] 35)).heap.size := by simp only [World.size_alloc]; omega
  generalize ((w.alloc (.cells #[.int .i64 a0_0, .int .i64 a0_1, .int .i64 a0_2] 106)).alloc (.cells #[.int .i64 a1_0, .int .i64 a1_1, .bool a1_2] 63)).alloc (.cells #[.int .i64 a2_0, .int .i64 a2_1, .string a2_2] 35) = W at *
  clear lt0 lt1 lt2
  replace k0_0 := cell_regrown k0_0
  replace k0_1 := cell_regrown k0_1
  replace k0_2 := cell_regrown k0_2
  replace k1_0 := cell_regrown k1_0
  replace k1_1 := cell_regrown k1_1
  replace k1_2 := cell_regrown k1_2
  replace k2_0 := cell_regrown k2_0
  replace k2_1 := cell_regrown k2_1
  replace k2_2 := cell_regrown k2_2
  refine wp_region_quiet_below (by kernel_rfl) (by kernel_rfl) ?_
  repeat (first | go_big_quiet_step (first | exact Calls.regrown_of (partition_num.calls _ _ _ _ _ rfl) | exact Calls.regrown_of ((decimal_Fits.calls _ _ r _ H3.out ((HG.out.below hB.out).below (below_regrown _ _ _))).mono fun _ _ h => ⟨h.1, h.2.below⟩)) | quiet_step (first | exact Calls.regrown_of (partition_num.calls _ _ _ _ _ rfl) | exact Calls.regrown_of ((decimal_Fits.calls _ _ r _ H3.out ((HG.out.below hB.out).below (below_regrown _ _ _))).mono fun _ _ h => ⟨h.1, h.2.below⟩)))
  refine wpQuiet_nil ?_
  intro _ hw'
  obtain ⟨⟨dq, osq⟩, hw''⟩ := hw'
  subst hw''
  have hD := Lib.hid (below_regrown W dq osq)
  go_wp2
  go_ret
  exact ⟨rfl, below_then hB.out hB.out.size hD.out⟩
theorem partition_spec_isBucket.calls (a0_0 a0_1 a0_2 : Int) (a1_0 a1_1 : Int) (a1_2 : Bool) (a2_0 a2_1 : Int) (a2_2 : ByteArray) (r : Bool) (w : World) (h : partition_spec_isBucket.f a0_0 a0_1 a0_2 a1_0 a1_1 a1_2 a2_0 a2_1 a2_2 = some r) (hG : Laid w) :
    Calls Tryz.prog 80 #[.agg #[.int .i64 a0_0, .int .i64 a0_1, .int .i64 a0_2], .agg #[.int .i64 a1_0, .int .i64 a1_1, .bool a1_2], .agg #[.int .i64 a2_0, .int .i64 a2_1, .string a2_2]] w fun e w' => e = .returned (.bool r) ∧ Below w.heap.size w w' := by
  unfold partition_spec_isBucket.f at h
  cases b0 : (a2_0 == 2 && a2_2.toList.isEmpty) with
  | false =>
    rw [b0, if_neg (fun z => by cases z.1)] at h
    obtain rfl := Option.some.inj h
    exact partition_spec_isBucket.no1 _ _ _ _ _ _ _ _ _ w hG b0
  | true =>
    by_cases h1 : 0 ≤ a2_1
    · by_cases h2 : a2_1 < wrap64 (a0_2 * 1000000)
      · rw [if_pos ⟨b0, h1, h2⟩] at h
        exact partition_spec_isBucket.last _ _ _ _ _ _ _ _ _ w hG b0 (decide_eq_true h1) (decide_eq_true h2) r (Lib.hid h)
      · rw [if_neg (fun z => h2 z.2.2)] at h
        obtain rfl := Option.some.inj h
        exact partition_spec_isBucket.no3 _ _ _ _ _ _ _ _ _ w hG b0 (decide_eq_true h1) (decide_eq_false h2)
    · rw [if_neg (fun z => h1 z.2.1)] at h
      obtain rfl := Option.some.inj h
      exact partition_spec_isBucket.no2 _ _ _ _ _ _ _ _ _ w hG b0 (decide_eq_false h1)
end Go.Proofs.YteflfnjljjianaaGreatDoor.Qx
namespace Go.Proofs.YteflfnjljjianaaGreatDoor.Qx
open Go.RowKit Go.Proofs.YteflfnjljjianaaGreatDoorW.PrintWords Go.Proofs.YteflfnjljjianaaGreatDoorW.PrintLast Go.Proofs.YteflfnjljjianaaGreatDoorW.PrintMore
attribute [local go_sem] max2_int min2_int max_two min_two
set_option linter.unusedVariables false
set_option linter.unusedSimpArgs false
def partition_spec_isTrunc.f (k : Nat) (a0_0 : Int) (a0_1 : Int) (a0_2 : Int) (a1_0 : Int) (a1_1 : Int) (a1_2 : Bool) (a2_0 : Int) (a2_1 : Int) (a2_2 : ByteArray) : Option (Bool) := (value_Wide.f k a2_0 a2_1 a2_2).bind fun t104 => (if t104 = true then (if a2_0 = a1_0 then ((partition_spec_trunc.f a0_0 a0_1 a0_2 a2_0 a2_1 a2_2).bind fun bt105 => (some (bt105.1 == a2_0 && (bt105.2.1 == a2_1 && (bt105.2.2.toList == a2_2.toList))))) else (some false)) else (some false))
attribute [local go_sem high] eqA35
set_option maxRecDepth 100000 in
set_option maxHeartbeats 4000000 in
theorem partition_spec_isTrunc.calls (k : Nat) (a0_0 : Int) (a0_1 : Int) (a0_2 : Int) (a1_0 : Int) (a1_1 : Int) (a1_2 : Bool) (a2_0 : Int) (a2_1 : Int) (a2_2 : ByteArray) (r : Bool) (w : World) (h : partition_spec_isTrunc.f k a0_0 a0_1 a0_2 a1_0 a1_1 a1_2 a2_0 a2_1 a2_2 = some r) :
    Calls Tryz.prog 83 #[.agg #[.int .i64 a0_0, .int .i64 a0_1, .int .i64 a0_2], .agg #[.int .i64 a1_0, .int .i64 a1_1, .bool a1_2], .agg #[.int .i64 a2_0, .int .i64 a2_1, .string a2_2]] w fun e w' => e = .returned (.bool r) ∧ Below w.heap.size w w' := by
  have hu106 := Tryz.underlying106
  have hu63 := Tryz.underlying63
  have hu35 := Tryz.underlying35
  obtain ⟨t, hw, h⟩ := Option.bind_eq_some_iff.1 h
  have HW := Lib.hid hw
  clear hw
  go_enter Tryz.func83, Tryz.ntmps83
  go_wp2
  have B0 := blk_alloc (blk_alloc (heap_alloc_new w (.cells #[.int .i64 a0_0, .int .i64 a0_1, .int .i64 a0_2] 106)) (.cells #[.int .i64 a1_0, .int .i64 a1_1, .bool a1_2] 63)) (.cells #[.int .i64 a2_0, .int .i64 a2_1, .string a2_2] 35)
  have B1 := blk_alloc (heap_alloc_new (w.alloc (.cells #[.int .i64 a0_0, .int .i64 a0_1, .int .i64 a0_2] 106)) (.cells #[.int .i64 a1_0, .int .i64 a1_1, .bool a1_2] 63)) (.cells #[.int .i64 a2_0, .int .i64 a2_1, .string a2_2] 35)
  have B2 := heap_alloc_new ((w.alloc (.cells #[.int .i64 a0_0, .int .i64 a0_1, .int .i64 a0_2] 106)).alloc (.cells #[.int .i64 a1_0, .int .i64 a1_1, .bool a1_2] 63)) (.cells #[.int .i64 a2_0, .int .i64 a2_1, .string a2_2] 35)
  have hB := below_alloc (below_alloc (below_alloc (Below.refl w.heap.size w) (.cells #[.int .i64 a0_0, .int .i64 a0_1, .int .i64 a0_2] 106)) (.cells #[.int .i64 a1_0, .int .i64 a1_1, .bool a1_2] 63)) (.cells #[.int .i64 a2_0, .int .i64 a2_1, .string a2_2] 35)
  simp only [World.size_alloc] at B1 B2
  generalize ((w.alloc (.cells #[.int .i64 a0_0, .int .i64 a0_1, .int .i64 a0_2] 106)).alloc (.cells #[.int .i64 a1_0, .int .i64 a1_1, .bool a1_2] 63)).alloc (.cells #[.int .i64 a2_0, .int .i64 a2_1, .string a2_2] 35) = W at *
  have k00 := cell_regrown ((blk_cell B0 0).trans rfl)
  have k01 := cell_regrown ((blk_cell B0 1).trans rfl)
  have k02 := cell_regrown ((blk_cell B0 2).trans rfl)
  have k10 := cell_regrown ((blk_cell B1 0).trans rfl)
  have k20 := cell_regrown ((blk_cell B2 0).trans rfl)
  have k21 := cell_regrown ((blk_cell B2 1).trans rfl)
  have k22 := cell_regrown ((blk_cell B2 2).trans rfl)
  have HB := Lib.hid hB
  clear B0 B1 B2 hB
  cases t with
  | false =>
    obtain rfl : false = r := by simpa using h
    clear h
    refine wp_region_quiet_below (by kernel_rfl) (by kernel_rfl) ?_
    repeat (first | go_big_quiet_skip | go_big_quiet_step (exact Calls.regrown_of (value_Wide.calls k _ _ _ false _ HW.out)) | quiet_step (exact Calls.regrown_of (value_Wide.calls k _ _ _ false _ HW.out)))
    refine wpQuiet_nil ?_
    intro _ hw'
    obtain ⟨⟨dq, osq⟩, hw''⟩ := hw'
    subst hw''
    go_wp2
    go_ret
    exact ⟨rfl, below_step HB.out (below_regrown W dq osq)⟩
  | true =>
    rw [if_pos rfl] at h
    by_cases hk : a2_0 = a1_0
    · rw [if_pos hk] at h
      obtain ⟨⟨q0, q1, q2⟩, hq, h⟩ := Option.bind_eq_some_iff.1 h
      have hke : (a2_0 == a1_0) = true := beq_iff_eq.2 hk
      have h' : (q0 == a2_0 && (q1 == a2_1 && (q2.toList == a2_2.toList))) = r := Option.some.inj h
      have HQ := Lib.hid hq
      have HE := Lib.hid h'
      clear h h' hq hk
      refine wp_region_quiet_below (by kernel_rfl) (by kernel_rfl) ?_
      repeat (first | go_big_quiet_skip | go_big_quiet_step (first | exact Calls.regrown_of (value_Wide.calls k _ _ _ true _ HW.out) | exact Calls.regrown_of (partition_spec_trunc.calls a0_0 a0_1 a0_2 a2_0 a2_1 a2_2 q0 q1 q2 _ HQ.out)) | quiet_step (first | exact Calls.regrown_of (value_Wide.calls k _ _ _ true _ HW.out) | exact Calls.regrown_of (partition_spec_trunc.calls a0_0 a0_1 a0_2 a2_0 a2_1 a2_2 q0 q1 q2 _ HQ.out)))
      refine wpQuiet_nil ?_
      intro _ hw'
      obtain ⟨⟨dq, osq⟩, hw''⟩ := hw'
      subst hw''
      go_wp2
      go_ret
      rw [← HE.out]
      exact ⟨by simp, below_step HB.out (below_regrown W dq osq)⟩
    · rw [if_neg hk] at h
      obtain rfl : false = r := by simpa using h
      have hke : (a2_0 == a1_0) = false := beq_eq_false_iff_ne.2 hk
      clear h hk
      refine wp_region_quiet_below (by kernel_rfl) (by kernel_rfl) ?_
      repeat (first | go_big_quiet_skip | go_big_quiet_step (exact Calls.regrown_of (value_Wide.calls k _ _ _ true _ HW.out)) | quiet_step (exact Calls.regrown_of (value_Wide.calls k _ _ _ true _ HW.out)))
      refine wpQuiet_nil ?_
      intro _ hw'
      obtain ⟨⟨dq, osq⟩, hw''⟩ := hw'
      subst hw''
      go_wp2
      go_ret
      exact ⟨rfl, below_step HB.out (below_regrown W dq osq)⟩
end Go.Proofs.YteflfnjljjianaaGreatDoor.Qx
namespace Go.Proofs.YteflfnjljjianaaGreatDoor.Qx
open Go.RowKit Go.Proofs.YteflfnjljjianaaGreatDoorW.PrintWords Go.Proofs.YteflfnjljjianaaGreatDoorW.PrintLast Go.Proofs.YteflfnjljjianaaGreatDoorW.PrintMore
attribute [local go_sem] max2_int min2_int max_two min_two
set_option linter.unusedVariables false
set_option linter.unusedSimpArgs false
attribute [local go_sem high] eqA35
def partition_Possible.f (k : Nat) (l0 : List S63) (a b n : Int) (p0 p1 : Int) (p2 : ByteArray) : Option Bool :=
  (partition_Valid.f l0 a b n).bind fun v => if v = true then (if a = 0 then some (p0 == 0 && (p1 == 0 && p2.toList.isEmpty)) else if (p0 == 0 && (p1 == 0 && p2.toList.isEmpty)) = true then some (rd_T63 l0 b).f2
    else if a = 1 then partition_spec_isValue.f k a b n (rd_T63 l0 b).f0 (rd_T63 l0 b).f1 (rd_T63 l0 b).f2 p0 p1 p2 else if a = 2 then partition_spec_isBucket.f a b n (rd_T63 l0 b).f0 (rd_T63 l0 b).f1 (rd_T63 l0 b).f2 p0 p1 p2
    else if a = 3 then partition_spec_isTrunc.f k a b n (rd_T63 l0 b).f0 (rd_T63 l0 b).f1 (rd_T63 l0 b).f2 p0 p1 p2 else none) else some false
theorem partition_Valid.attr {l0 : List S63} {a b n : Int} (h : partition_Valid.f l0 a b n = some true) (ha : a ≠ 0) : 0 < a ∧ a < 4 ∧ 0 ≤ b ∧ b < (l0.length : Int) := by
  unfold partition_Valid.f at h
  split at h
  · split at h
    · exact absurd h (by simp)
    · (try rw [if_neg ha] at h)
      split at h
      · assumption
      · exact absurd h (by simp)
  · exact absurd h (by simp)
set_option maxRecDepth 100000 in
set_option maxHeartbeats 4000000 in
theorem partition_Possible.calls (k : Nat) (A0 : Option Addr) (c0 : Nat) (l0 : List S63) (a b n : Int) (p0 p1 : Int) (p2 : ByteArray) (r : Bool) (w : World) (hr : Kd.C k63 w A0 l0.length l0) (hc : l0.length ≤ c0) (hG : Laid w) (h : partition_Possible.f k l0 a b n p0 p1 p2 = some r) :
    Calls Tryz.prog 24 #[.slice A0 l0.length c0, .agg #[.int .i64 a, .int .i64 b, .int .i64 n], .agg #[.int .i64 p0, .int .i64 p1, .string p2]] w fun e w' => e = .returned (.bool r) ∧ Below w.heap.size w w' := by
  obtain ⟨v, hv, h⟩ := Option.bind_eq_some_iff.1 h
  have hu27 := Tryz.underlying27
  have hu35 := Tryz.underlying35
  have hu63 := Tryz.underlying63
  have HV := Lib.hid hv
  have HR := Lib.hid hr
  have HG := Lib.hid hG
  have HH := Lib.hid h
  clear hv hr hG h
  go_enter Tryz.func24, Tryz.ntmps24
  go_wp2_with fail
  have B0 := blk_alloc (heap_alloc_new w (.cells #[.int .i64 a, .int .i64 b, .int .i64 n] 27)) (.cells #[.int .i64 p0, .int .i64 p1, .string p2] 35)
  have B1 := heap_alloc_new (w.alloc (.cells #[.int .i64 a, .int .i64 b, .int .i64 n] 27)) (.cells #[.int .i64 p0, .int .i64 p1, .string p2] 35)
  have hB := ((Below.refl w.heap.size w).alloc (Nat.le_refl _) (.cells #[.int .i64 a, .int .i64 b, .int .i64 n] 27)).alloc (by simp only [World.size_alloc]; omega) (.cells #[.int .i64 p0, .int .i64 p1, .string p2] 35)
  simp only [World.size_alloc] at B1
  generalize (w.alloc (.cells #[.int .i64 a, .int .i64 b, .int .i64 n] 27)).alloc (.cells #[.int .i64 p0, .int .i64 p1, .string p2] 35) = W at *
  refine (partition_Valid.calls A0 c0 l0 a b n v _ (Kd.C_below HR.out hB) hc HV.out).mono ?_
  rintro e w1 ⟨rfl, hb1⟩
  replace hB := below_then hB hB.size hb1
  have C0 := blk_below B0 hb1
  have C1 := blk_below B1 hb1
  have k0 : w1.cell? ⟨w.heap.size, 0, none⟩ = some (.int .i64 a) := (blk_cell C0 0).trans rfl
  have k1 : w1.cell? ⟨w.heap.size, 1, none⟩ = some (.int .i64 b) := (blk_cell C0 1).trans rfl
  have k2 : w1.cell? ⟨w.heap.size, 2, none⟩ = some (.int .i64 n) := (blk_cell C0 2).trans rfl
  have m0 : w1.cell? ⟨w.heap.size + 1, 0, none⟩ = some (.int .i64 p0) := (blk_cell C1 0).trans rfl
  have m1 : w1.cell? ⟨w.heap.size + 1, 1, none⟩ = some (.int .i64 p1) := (blk_cell C1 1).trans rfl
  have m2 : w1.cell? ⟨w.heap.size + 1, 2, none⟩ = some (.string p2) := (blk_cell C1 2).trans rfl
  have D0 := Lib.hid C0
  have D1 := Lib.hid C1
  have HB := Lib.hid hB
  clear B0 B1 hb1 hB C0 C1
  cases v with
  | false =>
    have h := HH.out
    rw [if_neg (by decide)] at h
    obtain rfl := Option.some.inj h
    clear h HH
    go_wp2
    go_ret
    exact ⟨rfl, HB.out⟩
  | true =>
    have h := HH.out
    rw [if_pos rfl] at h
    clear HH
    have HR1 := Lib.hid (Kd.C_below HR.out HB.out)
    have HG1 := Lib.hid (HG.out.below HB.out)
    have keepS : ∀ w' : World, w'.heap[w.heap.size]? = some (.cells #[.int .i64 a, .int .i64 b, .int .i64 n] 27 (0, 0)) → w'.heap[w.heap.size + 1]? = some (.cells #[.int .i64 p0, .int .i64 p1, .string p2] 35 (0, 0)) → (w'.cell? ⟨w.heap.size, 0, none⟩ = some (.int .i64 a) ∧ w'.cell? ⟨w.heap.size, 1, none⟩ = some (.int .i64 b) ∧ w'.cell? ⟨w.heap.size, 2, none⟩ = some (.int .i64 n) ∧ w'.cell? ⟨w.heap.size + 1, 0, none⟩ = some (.int .i64 p0) ∧ w'.cell? ⟨w.heap.size + 1, 1, none⟩ = some (.int .i64 p1) ∧ w'.cell? ⟨w.heap.size + 1, 2, none⟩ = some (.string p2)) := fun w' b0 b1 => ⟨(blk_cell b0 0).trans rfl, (blk_cell b0 1).trans rfl, (blk_cell b0 2).trans rfl, (blk_cell b1 0).trans rfl, (blk_cell b1 1).trans rfl, (blk_cell b1 2).trans rfl⟩
    have KS := Lib.hid keepS
    have E0 := Lib.hid (blk_drew D0.out)
    have E1 := Lib.hid (blk_drew D1.out)
    clear keepS
    by_cases ha : a = 0
    · subst ha
      rw [if_pos rfl] at h
      obtain rfl := Option.some.inj h
      clear h
      go_wp2
      go_region_held3 (fun w' => w'.cell? ⟨w.heap.size, 0, none⟩ = some (.int .i64 0) ∧ w'.cell? ⟨w.heap.size, 1, none⟩ = some (.int .i64 b) ∧ w'.cell? ⟨w.heap.size, 2, none⟩ = some (.int .i64 n) ∧ w'.cell? ⟨w.heap.size + 1, 0, none⟩ = some (.int .i64 p0) ∧ w'.cell? ⟨w.heap.size + 1, 1, none⟩ = some (.int .i64 p1) ∧ w'.cell? ⟨w.heap.size + 1, 2, none⟩ = some (.string p2)) (first
        | (with_reducible exact KS.out _ D0.out D1.out)
        | (with_reducible exact KS.out _ E0.out E1.out)
        | (with_reducible exact KS.out _ F0.out F1.out)) (first
        | (go_at_call 47
           refine (partition_null.calls 0 0 ⟨#[]⟩ _ rfl).mono ?_
           rintro e w2 ⟨rfl, hb2⟩
           have F0 := Lib.hid (blk_below E0.out hb2)
           have F1 := Lib.hid (blk_below E1.out hb2)))
      all_goals
        have hB2 := below_then (below_drew1 HB.out) HB.out.size hb2
        go_wp2
        go_ret
        exact ⟨rfl, hB2⟩
    · obtain ⟨g0, g1, g2, g3⟩ := partition_Valid.attr HV.out ha
      rw [if_neg ha] at h
      have d0 : (a == 0) = false := beq_false_of_ne ha
      have HA := Lib.hid ha
      clear ha
      generalize hnl : (p0 == 0 && (p1 == 0 && p2.toList.isEmpty)) = nl at *
      have HN := Lib.hid hnl
      have HH := Lib.hid h
      clear h hnl
      go_wp2
      go_region_held3 (fun w' => w'.cell? ⟨w.heap.size, 0, none⟩ = some (.int .i64 a) ∧ w'.cell? ⟨w.heap.size, 1, none⟩ = some (.int .i64 b) ∧ w'.cell? ⟨w.heap.size, 2, none⟩ = some (.int .i64 n) ∧ w'.cell? ⟨w.heap.size + 1, 0, none⟩ = some (.int .i64 p0) ∧ w'.cell? ⟨w.heap.size + 1, 1, none⟩ = some (.int .i64 p1) ∧ w'.cell? ⟨w.heap.size + 1, 2, none⟩ = some (.string p2)) (first
        | (with_reducible exact KS.out _ D0.out D1.out)
        | (with_reducible exact KS.out _ E0.out E1.out)
        | (with_reducible exact KS.out _ F0.out F1.out)) (first
        | (go_at_call 47
           refine (partition_null.calls 0 0 ⟨#[]⟩ _ rfl).mono ?_
           rintro e w2 ⟨rfl, hb2⟩
           have F0 := Lib.hid (blk_below E0.out hb2)
           have F1 := Lib.hid (blk_below E1.out hb2)))
      all_goals
        have hB2 := below_then (below_drew1 HB.out) HB.out.size hb2
        obtain ⟨ad, e0, t0, t1, t2⟩ := at_T63 (Kd.C_below HR1.out (Below.trans (below_drew1 (Below.refl _ _)) hb2)) b g2 g3
        subst e0
        rw [HN.out]
        have G0 := F0.out
        have G1 := F1.out
        have j0 : w2.cell? ⟨w.heap.size, 0, none⟩ = some (.int .i64 a) := (blk_cell G0 0).trans rfl
        have j1 : w2.cell? ⟨w.heap.size, 1, none⟩ = some (.int .i64 b) := (blk_cell G0 1).trans rfl
        have j2 : w2.cell? ⟨w.heap.size, 2, none⟩ = some (.int .i64 n) := (blk_cell G0 2).trans rfl
        have l0' : w2.cell? ⟨w.heap.size + 1, 0, none⟩ = some (.int .i64 p0) := (blk_cell G1 0).trans rfl
        have l1' : w2.cell? ⟨w.heap.size + 1, 1, none⟩ = some (.int .i64 p1) := (blk_cell G1 1).trans rfl
        have l2' : w2.cell? ⟨w.heap.size + 1, 2, none⟩ = some (.string p2) := (blk_cell G1 2).trans rfl
        have h := HH.out
        have HG2 := Lib.hid (HG.out.below hB2)
        clear G0 G1 F0 F1 E0 E1 D0 D1 KS k0 k1 k2 m0 m1 m2 HN HR1 HG1 HR HG HB hb2
        generalize hx : rd_T63 l0 b = x at *
        clear hx
        cases nl with
        | true =>
          rw [if_pos rfl] at h
          obtain rfl := Option.some.inj h
          clear h HH
          go_wp2
          go_ret
          exact ⟨rfl, hB2⟩
        | false =>
          rw [if_neg (by decide)] at h
          by_cases ha1 : a = 1
          · subst ha1
            rw [if_pos rfl] at h
            have HC := Lib.hid h
            clear h HH
            have i1 := partition_kinds.at1
            have i2 := partition_kinds.fld1_2
            go_wp2
            go_region_held3 (fun w' => w'.cell? ⟨w.heap.size, 0, none⟩ = some (.int .i64 1) ∧ w'.cell? ⟨w.heap.size, 1, none⟩ = some (.int .i64 b) ∧ w'.cell? ⟨w.heap.size, 2, none⟩ = some (.int .i64 n) ∧ w'.cell? ⟨w.heap.size + 1, 0, none⟩ = some (.int .i64 p0) ∧ w'.cell? ⟨w.heap.size + 1, 1, none⟩ = some (.int .i64 p1) ∧ w'.cell? ⟨w.heap.size + 1, 2, none⟩ = some (.string p2) ∧ w'.cell? (ad.add (b.toNat * 3)) = some (.int .i64 x.f0) ∧ w'.cell? ⟨(ad.add (b.toNat * 3)).block, (ad.add (b.toNat * 3)).off + 1, none⟩ = some (.int .i64 x.f1) ∧ w'.cell? ⟨(ad.add (b.toNat * 3)).block, (ad.add (b.toNat * 3)).off + 2, none⟩ = some (.bool x.f2)) (first
              | (refine ⟨?_, ?_, ?_, ?_, ?_, ?_, ?_, ?_, ?_⟩ <;> (go_split_ands; first | assumption | exact pw_cell_below hb3 (by assumption) | exact pw_cell_below hb4 (by assumption)))) (first
              | (go_at_call 44
                 refine (partition_kinds.tab _).mono ?_
                 rintro e w3 ⟨rfl, hb3⟩)
              | (go_at_call 77
                 refine (partition_spec_isValue.calls k 1 b n x.f0 x.f1 x.f2 p0 p1 p2 r _ HC.out (HG2.out.below (Below.trans (below_drew1 (Below.refl _ _)) hb3))).mono ?_
                 rintro e w4 ⟨rfl, hb4⟩))
            all_goals
              go_wp2
              go_ret
              exact ⟨rfl, below_then (below_then (below_drew1 hB2) hB2.size hb3) (Nat.le_trans hB2.size hb3.size) hb4⟩
          rw [if_neg ha1] at h
          by_cases ha2 : a = 2
          · subst ha2
            rw [if_pos rfl] at h
            have HC := Lib.hid h
            clear h HH
            have i1 := partition_kinds.at2
            have i2 := partition_kinds.fld2_2
            go_wp2
            go_region_held3 (fun w' => w'.cell? ⟨w.heap.size, 0, none⟩ = some (.int .i64 2) ∧ w'.cell? ⟨w.heap.size, 1, none⟩ = some (.int .i64 b) ∧ w'.cell? ⟨w.heap.size, 2, none⟩ = some (.int .i64 n) ∧ w'.cell? ⟨w.heap.size + 1, 0, none⟩ = some (.int .i64 p0) ∧ w'.cell? ⟨w.heap.size + 1, 1, none⟩ = some (.int .i64 p1) ∧ w'.cell? ⟨w.heap.size + 1, 2, none⟩ = some (.string p2) ∧ w'.cell? (ad.add (b.toNat * 3)) = some (.int .i64 x.f0) ∧ w'.cell? ⟨(ad.add (b.toNat * 3)).block, (ad.add (b.toNat * 3)).off + 1, none⟩ = some (.int .i64 x.f1) ∧ w'.cell? ⟨(ad.add (b.toNat * 3)).block, (ad.add (b.toNat * 3)).off + 2, none⟩ = some (.bool x.f2)) (first
              | (refine ⟨?_, ?_, ?_, ?_, ?_, ?_, ?_, ?_, ?_⟩ <;> (go_split_ands; first | assumption | exact pw_cell_below hb3 (by assumption) | exact pw_cell_below hb4 (by assumption)))) (first
              | (go_at_call 44
                 refine (partition_kinds.tab _).mono ?_
                 rintro e w3 ⟨rfl, hb3⟩)
              | (go_at_call 80
                 refine (partition_spec_isBucket.calls 2 b n x.f0 x.f1 x.f2 p0 p1 p2 r _ HC.out (HG2.out.below (Below.trans (below_drew1 (Below.refl _ _)) hb3))).mono ?_
                 rintro e w4 ⟨rfl, hb4⟩))
            all_goals
              go_wp2
              go_ret
              exact ⟨rfl, below_then (below_then (below_drew1 hB2) hB2.size hb3) (Nat.le_trans hB2.size hb3.size) hb4⟩
          rw [if_neg ha2] at h
          by_cases ha3 : a = 3
          · subst ha3
            rw [if_pos rfl] at h
            have HC := Lib.hid h
            clear h HH
            have i1 := partition_kinds.at3
            have i2 := partition_kinds.fld3_2
            go_wp2
            go_region_held3 (fun w' => w'.cell? ⟨w.heap.size, 0, none⟩ = some (.int .i64 3) ∧ w'.cell? ⟨w.heap.size, 1, none⟩ = some (.int .i64 b) ∧ w'.cell? ⟨w.heap.size, 2, none⟩ = some (.int .i64 n) ∧ w'.cell? ⟨w.heap.size + 1, 0, none⟩ = some (.int .i64 p0) ∧ w'.cell? ⟨w.heap.size + 1, 1, none⟩ = some (.int .i64 p1) ∧ w'.cell? ⟨w.heap.size + 1, 2, none⟩ = some (.string p2) ∧ w'.cell? (ad.add (b.toNat * 3)) = some (.int .i64 x.f0) ∧ w'.cell? ⟨(ad.add (b.toNat * 3)).block, (ad.add (b.toNat * 3)).off + 1, none⟩ = some (.int .i64 x.f1) ∧ w'.cell? ⟨(ad.add (b.toNat * 3)).block, (ad.add (b.toNat * 3)).off + 2, none⟩ = some (.bool x.f2)) (first
              | (refine ⟨?_, ?_, ?_, ?_, ?_, ?_, ?_, ?_, ?_⟩ <;> (go_split_ands; first | assumption | exact pw_cell_below hb3 (by assumption) | exact pw_cell_below hb4 (by assumption)))) (first
              | (go_at_call 44
                 refine (partition_kinds.tab _).mono ?_
                 rintro e w3 ⟨rfl, hb3⟩)
              | (go_at_call 83
                 refine (partition_spec_isTrunc.calls k 3 b n x.f0 x.f1 x.f2 p0 p1 p2 r _ HC.out).mono ?_
                 rintro e w4 ⟨rfl, hb4⟩))
            all_goals
              go_wp2
              go_ret
              exact ⟨rfl, below_then (below_then (below_drew1 hB2) hB2.size hb3) (Nat.le_trans hB2.size hb3.size) hb4⟩
          rw [if_neg ha3] at h
          exact absurd h (by simp)
end Go.Proofs.YteflfnjljjianaaGreatDoor.Qx
namespace Go.Proofs.YteflfnjljjianaaGreatDoor.Qx
open Go.RowKit Go.Proofs.YteflfnjljjianaaGreatDoorW.PrintWords Go.Proofs.YteflfnjljjianaaGreatDoorW.PrintLast Go.Proofs.YteflfnjljjianaaGreatDoorW.PrintMore
attribute [local go_sem] max2_int min2_int max_two min_two
set_option linter.unusedVariables false
set_option linter.unusedSimpArgs false
def chapmanref06_Null.f  : Option (Int × Int × ByteArray) := some (0, 0, (⟨#[]⟩ : ByteArray))
set_option maxHeartbeats 8000000 in
set_option maxRecDepth 100000 in
theorem chapmanref06_Null.calls  (r1 : Int) (r2 : Int) (r3 : ByteArray) (w : World) (h : chapmanref06_Null.f  = some (r1, r2, r3)) :
    Calls Tryz.prog 15 #[] w fun e w' => e = .returned (.agg #[.int .i64 r1, .int .i64 r2, .string r3]) ∧ Below w.heap.size w w' := by
  have hu35 := Tryz.underlying35
  have HB := Aside0.mk (Below.refl w.heap.size w)
  have H : (some (0, 0, (⟨#[]⟩ : ByteArray))) = some (r1, r2, r3) := h
  clear h
  simp only [Option.some.injEq, Prod.mk.injEq] at H
  obtain ⟨rfl, rfl, rfl⟩ := H
  go_enter Tryz.func15, Tryz.ntmps15
  go_wp2_with (first | ((with_reducible refine gate_dst (N := 0) rfl ?_); refine box_event ?hg (N := 0) ?hd (cs := #[.int .i64 0, .int .i64 0, .string (⟨#[]⟩ : ByteArray)]) (t := 35) ?hr ?_; (case hd => rfl); (case hg => rfl); (case hr => first | (go_simp; done) | (go_simp; rfl)); intro gb101 hg w1 hbox hb; have n0_ := Aside0.mk (below_step (by repeat (first | (with_reducible first | exact HB.out | apply below_alloc | apply pw_below_drewN | apply below_drew1) | exact HB.out)) hb); have n1_ := Aside0.mk (hbox); have n2_ := Aside0.mk ((by rw [hg]; exact (below_size (by repeat (first | (with_reducible first | exact HB.out | apply below_alloc | apply pw_below_drewN | apply below_drew1) | exact HB.out))) : w.heap.size ≤ gb101)); have n3_ := Aside0.mk ((by rw [hg]; exact (below_size (by repeat (first | (with_reducible first | exact HB.out | apply below_alloc | apply pw_below_drewN | apply below_drew1) | exact HB.out))) : w.heap.size ≤ gb101)); clear HB; have HB := n0_; have BK101 := n1_; have GW101 := n2_; have GE101 := n3_; clear n0_ n1_ n2_ n3_; clear hb hbox hg; have hcz2_0 : w1.cell? ⟨gb101, 0, none⟩ = some (.int .i64 0) := (blk_cell BK101.out 0).trans rfl; have hcz2_1 : w1.cell? ⟨gb101, 1, none⟩ = some (.int .i64 0) := (blk_cell BK101.out 1).trans rfl; have hcz2_2 : w1.cell? ⟨gb101, 2, none⟩ = some (.string (⟨#[]⟩ : ByteArray)) := (blk_cell BK101.out 2).trans rfl; have hfz2_0 := blk_frozen BK101.out 0; have hfz2_1 := blk_frozen BK101.out 1; have hfz2_2 := blk_frozen BK101.out 2))
  refine bodyPost_ret (results_cell_row rfl _ _ gb101 35 #[.int .i64 0, .int .i64 0, .string (⟨#[]⟩ : ByteArray)] (0, 0) _ rfl (by (with_reducible repeat (first | refine blk_drewN ?_ _ | refine blk_drew ?_ | refine blk_alloc ?_ _)); refine blk_put (cs := #[.int .i64 0, .int .i64 0, .string (⟨#[]⟩ : ByteArray)]) ?_ 2 _ rfl; (with_reducible repeat (first | refine blk_drewN ?_ _ | refine blk_drew ?_ | refine blk_alloc ?_ _)); refine blk_put (cs := #[.int .i64 0, .int .i64 0, .string (⟨#[]⟩ : ByteArray)]) ?_ 1 _ rfl; (with_reducible repeat (first | refine blk_drewN ?_ _ | refine blk_drew ?_ | refine blk_alloc ?_ _)); refine blk_put (cs := #[.int .i64 0, .int .i64 0, .string (⟨#[]⟩ : ByteArray)]) ?_ 0 _ rfl; (with_reducible repeat (first | refine blk_drewN ?_ _ | refine blk_drew ?_ | refine blk_alloc ?_ _)); exact BK101.out) Tryz.underlying35 rfl (by kernel_rfl)) rfl ?_
  exact ⟨by first | rfl | (simp [errW_none, errW_some] <;> rfl) | (simp [*, errW_none, errW_some] <;> rfl), by repeat (first | (with_reducible first | exact HB.out | apply below_alloc | apply pw_below_drewN | apply below_drew1 | refine below_set ?_ GE101.out) | exact HB.out)⟩
end Go.Proofs.YteflfnjljjianaaGreatDoor.Qx
namespace Go.Proofs.YteflfnjljjianaaGreatDoor.Qx
open Go.RowKit Go.Proofs.YteflfnjljjianaaGreatDoorW.PrintWords Go.Proofs.YteflfnjljjianaaGreatDoorW.PrintLast Go.Proofs.YteflfnjljjianaaGreatDoorW.PrintMore
attribute [local go_sem] max2_int min2_int max_two min_two
set_option linter.unusedVariables false
set_option linter.unusedSimpArgs false
def chapmanref06_Num.f (a0 : Int) : Option (Int × Int × ByteArray) := some (2, a0, (⟨#[]⟩ : ByteArray))
set_option maxHeartbeats 8000000 in
set_option maxRecDepth 100000 in
theorem chapmanref06_Num.calls (a0 : Int) (r1 : Int) (r2 : Int) (r3 : ByteArray) (w : World) (h : chapmanref06_Num.f a0 = some (r1, r2, r3)) :
    Calls Tryz.prog 37 #[.int .i64 a0] w fun e w' => e = .returned (.agg #[.int .i64 r1, .int .i64 r2, .string r3]) ∧ Below w.heap.size w w' := by
  have hu35 := Tryz.underlying35
  have HB := Aside0.mk (Below.refl w.heap.size w)
  have H : (some (2, a0, (⟨#[]⟩ : ByteArray))) = some (r1, r2, r3) := h
  clear h
  simp only [Option.some.injEq, Prod.mk.injEq] at H
  obtain ⟨rfl, rfl, rfl⟩ := H
  go_enter Tryz.func37, Tryz.ntmps37
  go_wp2_with (first | ((with_reducible refine gate_dst (N := 2) rfl ?_); refine box_event ?hg (N := 2) ?hd (cs := #[.int .i64 0, .int .i64 0, .string (⟨#[]⟩ : ByteArray)]) (t := 35) ?hr ?_; (case hd => rfl); (case hg => rfl); (case hr => first | (go_simp; done) | (go_simp; rfl)); intro gb101 hg w2 hbox hb; have n0_ := Aside0.mk (below_step (by repeat (first | (with_reducible first | exact HB.out | apply below_alloc | apply pw_below_drewN | apply below_drew1) | exact HB.out)) hb); have n1_ := Aside0.mk (hbox); have n2_ := Aside0.mk ((by rw [hg]; exact (below_size (by repeat (first | (with_reducible first | exact HB.out | apply below_alloc | apply pw_below_drewN | apply below_drew1) | exact HB.out))) : w.heap.size ≤ gb101)); have n3_ := Aside0.mk ((by rw [hg]; exact (below_size (by repeat (first | (with_reducible first | exact HB.out | apply below_alloc | apply pw_below_drewN | apply below_drew1) | exact HB.out))) : w.heap.size ≤ gb101)); clear HB; have HB := n0_; have BK101 := n1_; have GW101 := n2_; have GE101 := n3_; clear n0_ n1_ n2_ n3_; clear hb hbox hg; have hcz3_0 : w2.cell? ⟨gb101, 0, none⟩ = some (.int .i64 0) := (blk_cell BK101.out 0).trans rfl; have hcz3_1 : w2.cell? ⟨gb101, 1, none⟩ = some (.int .i64 0) := (blk_cell BK101.out 1).trans rfl; have hcz3_2 : w2.cell? ⟨gb101, 2, none⟩ = some (.string (⟨#[]⟩ : ByteArray)) := (blk_cell BK101.out 2).trans rfl; have hfz3_0 := blk_frozen BK101.out 0; have hfz3_1 := blk_frozen BK101.out 1; have hfz3_2 := blk_frozen BK101.out 2))
  refine bodyPost_ret (results_cell_row rfl _ _ gb101 35 #[.int .i64 2, .int .i64 a0, .string (⟨#[]⟩ : ByteArray)] (0, 0) _ rfl (by (with_reducible repeat (first | refine blk_drewN ?_ _ | refine blk_drew ?_ | refine blk_alloc ?_ _)); refine blk_put (cs := #[.int .i64 2, .int .i64 a0, .string (⟨#[]⟩ : ByteArray)]) ?_ 2 _ rfl; (with_reducible repeat (first | refine blk_drewN ?_ _ | refine blk_drew ?_ | refine blk_alloc ?_ _)); refine blk_put (cs := #[.int .i64 2, .int .i64 0, .string (⟨#[]⟩ : ByteArray)]) ?_ 1 _ rfl; (with_reducible repeat (first | refine blk_drewN ?_ _ | refine blk_drew ?_ | refine blk_alloc ?_ _)); refine blk_put (cs := #[.int .i64 0, .int .i64 0, .string (⟨#[]⟩ : ByteArray)]) ?_ 0 _ rfl; (with_reducible repeat (first | refine blk_drewN ?_ _ | refine blk_drew ?_ | refine blk_alloc ?_ _)); exact BK101.out) Tryz.underlying35 rfl (by kernel_rfl)) rfl ?_
  exact ⟨by first | rfl | (simp [errW_none, errW_some] <;> rfl) | (simp [*, errW_none, errW_some] <;> rfl), by repeat (first | (with_reducible first | exact HB.out | apply below_alloc | apply pw_below_drewN | apply below_drew1 | refine below_set ?_ GE101.out) | exact HB.out)⟩
end Go.Proofs.YteflfnjljjianaaGreatDoor.Qx
namespace Go.Proofs.YteflfnjljjianaaGreatDoor.Qx
open Go.RowKit Go.Proofs.YteflfnjljjianaaGreatDoorW.PrintWords Go.Proofs.YteflfnjljjianaaGreatDoorW.PrintLast Go.Proofs.YteflfnjljjianaaGreatDoorW.PrintMore
attribute [local go_sem] max2_int min2_int max_two min_two
set_option linter.unusedVariables false
set_option linter.unusedSimpArgs false
def chapmanref06_Whole.f (a0 : Int) : Option (Int × Int × ByteArray) := (chapmanref06_Num.f (wrap64 (a0 * 1000000))).bind fun bt102 => (some (bt102.1, bt102.2.1, bt102.2.2))
set_option maxHeartbeats 8000000 in
set_option maxRecDepth 100000 in
theorem chapmanref06_Whole.calls (a0 : Int) (r1 : Int) (r2 : Int) (r3 : ByteArray) (w : World) (h : chapmanref06_Whole.f a0 = some (r1, r2, r3)) :
    Calls Tryz.prog 16 #[.int .i64 a0] w fun e w' => e = .returned (.agg #[.int .i64 r1, .int .i64 r2, .string r3]) ∧ Below w.heap.size w w' := by
  have hu35 := Tryz.underlying35
  have HB := Aside0.mk (Below.refl w.heap.size w)
  have H : ((chapmanref06_Num.f (wrap64 (a0 * 1000000))).bind fun bt102 => (some (bt102.1, bt102.2.1, bt102.2.2))) = some (r1, r2, r3) := h
  clear h
  replace H := Option.bind_eq_some_iff.mp H
  obtain ⟨⟨t102, t103, t104⟩, A20, H⟩ := H
  replace H : (some (t102, t103, t104)) = some (r1, r2, r3) := H
  have A2 := Aside0.mk A20
  clear A20
  simp only [Option.some.injEq, Prod.mk.injEq] at H
  obtain ⟨rfl, rfl, rfl⟩ := H
  go_enter Tryz.func16, Tryz.ntmps16
  go_wp2_with (first | ((with_reducible refine gate_dst (N := 2) rfl ?_); refine box_event ?hg (N := 2) ?hd (cs := #[.int .i64 0, .int .i64 0, .string (⟨#[]⟩ : ByteArray)]) (t := 35) ?hr ?_; (case hd => rfl); (case hg => rfl); (case hr => first | (go_simp; done) | (go_simp; rfl)); intro gb101 hg w3 hbox hb; have n0_ := Aside0.mk (below_step (by repeat (first | (with_reducible first | exact HB.out | apply below_alloc | apply pw_below_drewN | apply below_drew1) | exact HB.out)) hb); have n1_ := Aside0.mk (hbox); have n2_ := Aside0.mk ((by rw [hg]; exact (below_size (by repeat (first | (with_reducible first | exact HB.out | apply below_alloc | apply pw_below_drewN | apply below_drew1) | exact HB.out))) : w.heap.size ≤ gb101)); have n3_ := Aside0.mk ((by rw [hg]; exact (below_size (by repeat (first | (with_reducible first | exact HB.out | apply below_alloc | apply pw_below_drewN | apply below_drew1) | exact HB.out))) : w.heap.size ≤ gb101)); clear HB; have HB := n0_; have BK101 := n1_; have GW101 := n2_; have GE101 := n3_; clear n0_ n1_ n2_ n3_; clear hb hbox hg) | ((with_reducible refine gate_callee (f := 37) rfl ?_); refine goesL_ (some 5) rfl rfl Tryz.func37 (by kernel_rfl) rfl #[.int .i64 (wrap64 (a0 * 1000000))] rfl (by (try simp only [List.map_toArray, List.map_cons, List.map_nil]); first | done | rfl | (simp only [List.length_drop, List.length_take]; rfl)) ?_; (with_reducible refine (chapmanref06_Num.calls (wrap64 (a0 * 1000000)) t102 t103 t104 _ A2.out).mono ?_); rintro e w4 ⟨rfl, hb⟩; refine ⟨_, rfl, ?_⟩; have n0_ := Aside0.mk (blk_below (g := gb101) (o := .cells #[.int .i64 0, .int .i64 0, .string (⟨#[]⟩ : ByteArray)] 35 (0, 0)) (by (with_reducible repeat (first | refine blk_drewN ?_ _ | refine blk_drew ?_ | refine blk_alloc ?_ _)); exact BK101.out) hb); have n1_ := Aside0.mk (below_step (by repeat (first | (with_reducible first | exact HB.out | apply below_alloc | apply pw_below_drewN | apply below_drew1 | refine below_set ?_ GE101.out) | exact HB.out)) hb); clear BK101; clear HB; have BK101 := n0_; have HB := n1_; clear n0_ n1_; (try clear hb); (try clear hb2); (try clear hk); (try clear hi); have hcz5_0 : w4.cell? ⟨gb101, 0, none⟩ = some (.int .i64 0) := (blk_cell BK101.out 0).trans rfl; have hcz5_1 : w4.cell? ⟨gb101, 1, none⟩ = some (.int .i64 0) := (blk_cell BK101.out 1).trans rfl; have hcz5_2 : w4.cell? ⟨gb101, 2, none⟩ = some (.string (⟨#[]⟩ : ByteArray)) := (blk_cell BK101.out 2).trans rfl; have hfz5_0 := blk_frozen BK101.out 0; have hfz5_1 := blk_frozen BK101.out 1; have hfz5_2 := blk_frozen BK101.out 2))
  refine bodyPost_ret (results_cell_row rfl _ _ gb101 35 #[.int .i64 t102, .int .i64 t103, .string t104] (0, 0) _ rfl (by (with_reducible repeat (first | refine blk_drewN ?_ _ | refine blk_drew ?_ | refine blk_alloc ?_ _)); refine blk_put (cs := #[.int .i64 t102, .int .i64 t103, .string (⟨#[]⟩ : ByteArray)]) ?_ 2 _ rfl; (with_reducible repeat (first | refine blk_drewN ?_ _ | refine blk_drew ?_ | refine blk_alloc ?_ _)); refine blk_put (cs := #[.int .i64 t102, .int .i64 0, .string (⟨#[]⟩ : ByteArray)]) ?_ 1 _ rfl; (with_reducible repeat (first | refine blk_drewN ?_ _ | refine blk_drew ?_ | refine blk_alloc ?_ _)); refine blk_put (cs := #[.int .i64 0, .int .i64 0, .string (⟨#[]⟩ : ByteArray)]) ?_ 0 _ rfl; (with_reducible repeat (first | refine blk_drewN ?_ _ | refine blk_drew ?_ | refine blk_alloc ?_ _)); exact BK101.out) Tryz.underlying35 rfl (by kernel_rfl)) rfl ?_
  exact ⟨by first | rfl | (simp [errW_none, errW_some] <;> rfl) | (simp [*, errW_none, errW_some] <;> rfl), by repeat (first | (with_reducible first | exact HB.out | apply below_alloc | apply pw_below_drewN | apply below_drew1 | refine below_set ?_ GE101.out) | exact HB.out)⟩
end Go.Proofs.YteflfnjljjianaaGreatDoor.Qx
namespace Go.Proofs.YteflfnjljjianaaGreatDoor.Qx
open Go.RowKit Go.Proofs.YteflfnjljjianaaGreatDoorW.PrintWords Go.Proofs.YteflfnjljjianaaGreatDoorW.PrintLast Go.Proofs.YteflfnjljjianaaGreatDoorW.PrintMore
attribute [local go_sem] max2_int min2_int max_two min_two
set_option linter.unusedVariables false
set_option linter.unusedSimpArgs false
set_option maxRecDepth 100000 in
set_option maxHeartbeats 4000000 in
theorem chapmanref06_CmpList.eq (A0 : Option Addr) (c0 : Nat) (A1 : Option Addr) (c1 : Nat) (l : List S35) (w : World) (hr0 : Kd.C k35 w A0 l.length l) (hr1 : Kd.C k35 w A1 l.length l) (hx : ∀ x ∈ l, chapmanref06_Cmp.f 100 x.f0 x.f1 x.f2 x.f0 x.f1 x.f2 = some 0) (hl : l.length ≤ 1000000) :
    Calls Tryz.prog 68 #[.slice A0 l.length c0, .slice A1 l.length c1] w fun e w' => e = .returned (.int .i64 0) ∧ Below w.heap.size w w' := by
  have hu28 := Tryz.underlying28
  have hu35 := Tryz.underlying35
  have HR0 := Lib.hid hr0
  have HR1 := Lib.hid hr1
  have HX := Lib.hid hx
  have HD := Lib.hid hl
  clear hr0 hr1 hx
  go_enter Tryz.func68, Tryz.ntmps68
  go_wp2
  go_loopw [5, 6] (fun s5 s6 wr => ∃ (j : Nat), s5 = .int .i64 j ∧ j ≤ l.length ∧ Below w.heap.size w wr) (fun s5 _ _ => l.length - (intOf s5).toNat)
  case atStart => exact ⟨0, rfl, Nat.zero_le _, Below.refl _ _⟩
  case round =>
    obtain ⟨j, rfl, hj, hB⟩ := hrel
    by_cases hlt : j < l.length
    · have hd : decide ((j : Int) < (l.length : Int)) = true := decide_eq_true (by omega)
      obtain ⟨ad, e0, x0, x1, x2⟩ := at_T35 (Kd.C_below HR0.out hB) (j : Int) (by omega) (by omega)
      obtain ⟨ad', e0', y0, y1, y2⟩ := at_T35 (Kd.C_below HR1.out hB) (j : Int) (by omega) (by omega)
      have hm : rd_T35 l (j : Int) ∈ l := by
        unfold rd_T35
        rw [Int.toNat_natCast, List.getD_eq_getElem?_getD, List.getElem?_eq_getElem hlt]
        exact List.getElem_mem _
      have HC := Lib.hid (HX.out _ hm)
      simp only [Int.toNat_natCast] at x0 x1 x2 y0 y1 y2
      replace x0 := cell_regrown x0
      replace x1 := cell_regrown x1
      replace x2 := cell_regrown x2
      replace y0 := cell_regrown y0
      replace y1 := cell_regrown y1
      replace y2 := cell_regrown y2
      subst e0 e0'
      clear hm
      generalize rd_T35 l (j : Int) = x at *
      have HB := Lib.hid hB
      clear hB
      go_wp2
      refine wp_region_quiet_below (by kernel_rfl) (by kernel_rfl) ?_
      repeat (first | go_big_quiet_step (exact Calls.regrown_of (chapmanref06_Cmp.calls 100 _ _ _ _ _ _ 0 _ HC.out)) | quiet_step (exact Calls.regrown_of (chapmanref06_Cmp.calls 100 _ _ _ _ _ _ 0 _ HC.out)))
      refine wpQuiet_nil ?_
      intro _ hw'
      obtain ⟨⟨dq, osq⟩, hw''⟩ := hw'
      subst hw''
      replace HB := Lib.hid (below_step HB.out (below_regrown wr dq osq))
      clear x0 x1 x2 y0 y1 y2
      go_wp2
      refine ⟨⟨j + 1, by simp, by omega, HB.out⟩, by simp [intOf]; omega⟩
    · have hd : decide ((j : Int) < (l.length : Int)) = false := decide_eq_false (by omega)
      have HB := Lib.hid hB
      clear hB
      go_wp2_with fail
      refine (chapmanref06_sign.calls _ _ 0 _ (by unfold chapmanref06_sign.f; rw [if_neg (by omega), if_neg (by omega)])).mono ?_
      rintro e w2 ⟨rfl, hdr⟩
      obtain ⟨n2, rfl⟩ := hdr.out
      replace HB := Lib.hid (pw_below_drewN HB.out n2)
      go_wp2
      go_ret
      exact ⟨rfl, HB.out⟩
end Go.Proofs.YteflfnjljjianaaGreatDoor.Qx
namespace Go.Proofs.YteflfnjljjianaaGreatDoor.Qx
open Go.RowKit Go.Proofs.YteflfnjljjianaaGreatDoorW.PrintWords Go.Proofs.YteflfnjljjianaaGreatDoorW.PrintLast Go.Proofs.YteflfnjljjianaaGreatDoorW.PrintMore
attribute [local go_sem] max2_int min2_int max_two min_two
set_option linter.unusedVariables false
set_option linter.unusedSimpArgs false
set_option maxRecDepth 100000 in
theorem chapmanref06_Same.eq (A0 : Option Addr) (c0 : Nat) (A1 : Option Addr) (c1 : Nat) (l : List S35) (w : World) (hr0 : Kd.C k35 w A0 l.length l) (hr1 : Kd.C k35 w A1 l.length l) (hx : ∀ x ∈ l, chapmanref06_Cmp.f 100 x.f0 x.f1 x.f2 x.f0 x.f1 x.f2 = some 0) (hl : l.length ≤ 1000000) :
    Calls Tryz.prog 34 #[.slice A0 l.length c0, .slice A1 l.length c1] w fun e w' => e = .returned (.bool true) ∧ Below w.heap.size w w' := by
  have HC := Lib.hid (chapmanref06_CmpList.eq A0 c0 A1 c1 l w hr0 hr1 hx hl)
  clear hr0 hr1 hx hl
  go_enter Tryz.func34, Tryz.ntmps34
  go_wp2_with fail
  refine HC.out.mono ?_
  rintro e w2 ⟨rfl, hb⟩
  go_wp2
  go_ret
  exact ⟨rfl, hb⟩
end Go.Proofs.YteflfnjljjianaaGreatDoor.Qx
namespace Go.Proofs.YteflfnjljjianaaGreatDoor.Qx
open Go.RowKit Go.Proofs.YteflfnjljjianaaGreatDoorW.PrintWords Go.Proofs.YteflfnjljjianaaGreatDoorW.PrintLast Go.Proofs.YteflfnjljjianaaGreatDoorW.PrintMore
attribute [local go_sem] max2_int min2_int max_two min_two
set_option linter.unusedVariables false
set_option linter.unusedSimpArgs false
theorem int_at {X : World} {A : Option Addr} {xs : List Int} (h : Kd.C (Kd.int .i64) X A xs.length xs) {j : Nat} (hj : j < xs.length) : ∃ ad, A = some ad ∧ X.cell? (ad.add j) = some (.int .i64 (xs.getD j 0)) := by
  obtain ⟨ad, c, e, _, hK, hc⟩ := Kd.C_get h (0 : Int) (j : Int) (by omega) (by omega)
  have e1 : c = [.int .i64 (xs.getD ((j : Int).toNat) 0)] := hK
  rw [Int.toNat_natCast] at e1
  subst e1
  have hq : X.cell? (ad.add ((j : Int).toNat * 1 + 0)) = some (.int .i64 (xs.getD j 0)) := hc 0 _ rfl
  rw [Int.toNat_natCast, Nat.mul_one, Nat.add_zero] at hq
  exact ⟨ad, e, hq⟩
theorem rows_at {X : World} {A : Option Addr} {xs : List (List Int)} (h : Kd.C (Kd.slice 3 (Kd.int .i64)) X A xs.length xs) {j : Nat} (hj : j < xs.length) :
    ∃ ad A0 c0, A = some ad ∧ X.cell? (ad.add j) = some (.slice A0 (xs.getD j []).length c0) ∧ Kd.C (Kd.int .i64) X A0 (xs.getD j []).length (xs.getD j []) := by
  obtain ⟨ad, c, e, _, hK, hc0⟩ := Kd.C_get h ([] : List Int) (j : Int) (by omega) (by omega)
  have hc : ∀ i u, c[i]? = some u → X.cell? (ad.add ((j : Int).toNat * 1 + i)) = some u := hc0
  obtain ⟨A0, c0, rfl, _, h3⟩ := hK
  have h1 := hc 0 _ rfl
  rw [Nat.mul_one, Nat.add_zero] at h1
  rw [Int.toNat_natCast] at h1 h3
  exact ⟨ad, A0, c0, e, h1, h3⟩
set_option maxRecDepth 100000 in
set_option maxHeartbeats 8000000 in
theorem chapmanref32_Same.eq (A0 : Option Addr) (c0 : Nat) (A1 : Option Addr) (c1 : Nat) (l : List S35) (B0 : Option Addr) (d0 : Nat) (B1 : Option Addr) (d1 : Nat) (gs : List (List Int)) (w : World) (hr0 : Kd.C k35 w A0 l.length l) (hr1 : Kd.C k35 w A1 l.length l)
    (hs0 : Kd.C (Kd.slice 3 (Kd.int .i64)) w B0 gs.length gs) (hs1 : Kd.C (Kd.slice 3 (Kd.int .i64)) w B1 gs.length gs) (hx : ∀ x ∈ l, chapmanref06_Cmp.f 100 x.f0 x.f1 x.f2 x.f0 x.f1 x.f2 = some 0) (hl : l.length ≤ 1000000) (hg : gs.length ≤ 1000000) (hgi : ∀ g ∈ gs, g.length ≤ 1000000) :
    Calls Tryz.prog 18 #[.agg #[.slice A0 l.length c0, .slice B0 gs.length d0], .agg #[.slice A1 l.length c1, .slice B1 gs.length d1]] w fun e w' => e = .returned (.bool true) ∧ Below w.heap.size w w' := by
  have hu28 := Tryz.underlying28
  have hu47 := Tryz.underlying47
  have hu49 := Tryz.underlying49
  have hu75 := Tryz.underlying75
  have HR0 := Lib.hid hr0
  have HR1 := Lib.hid hr1
  have HS0 := Lib.hid hs0
  have HS1 := Lib.hid hs1
  have HX := Lib.hid hx
  have HL := Lib.hid hl
  have HI := Lib.hid hgi
  clear hr0 hr1 hs0 hs1 hx hl hgi
  go_enter Tryz.func18, Tryz.ntmps18
  go_wp2_with fail
  have E0 := blk_alloc (heap_alloc_new w (.cells #[.slice A0 l.length c0, .slice B0 gs.length d0] 49)) (.cells #[.slice A1 l.length c1, .slice B1 gs.length d1] 49)
  have E1 := heap_alloc_new (w.alloc (.cells #[.slice A0 l.length c0, .slice B0 gs.length d0] 49)) (.cells #[.slice A1 l.length c1, .slice B1 gs.length d1] 49)
  have hB := below_alloc (below_alloc (Below.refl w.heap.size w) (.cells #[.slice A0 l.length c0, .slice B0 gs.length d0] 49)) (.cells #[.slice A1 l.length c1, .slice B1 gs.length d1] 49)
  simp only [World.size_alloc] at E1
  generalize (w.alloc (.cells #[.slice A0 l.length c0, .slice B0 gs.length d0] 49)).alloc (.cells #[.slice A1 l.length c1, .slice B1 gs.length d1] 49) = W at *
  refine (chapmanref06_Same.eq A0 c0 A1 c1 l W (Kd.C_below HR0.out hB) (Kd.C_below HR1.out hB) HX.out HL.out).mono ?_
  rintro e w1 ⟨rfl, hb⟩
  have F : ∀ X, Below w1.heap.size w1 X → (X.cell? ⟨w.heap.size, 0, none⟩ = some (.slice A0 l.length c0) ∧ X.cell? ⟨w.heap.size, 1, none⟩ = some (.slice B0 gs.length d0) ∧ X.cell? ⟨w.heap.size + 1, 0, none⟩ = some (.slice A1 l.length c1) ∧ X.cell? ⟨w.heap.size + 1, 1, none⟩ = some (.slice B1 gs.length d1)) ∧ Kd.C (Kd.slice 3 (Kd.int .i64)) X B0 gs.length gs ∧ Kd.C (Kd.slice 3 (Kd.int .i64)) X B1 gs.length gs ∧ Below w.heap.size w X := fun X hX => by
    have e0 := blk_below (blk_below E0 hb) hX
    have e1 := blk_below (blk_below E1 hb) hX
    exact ⟨⟨(blk_cell e0 0).trans rfl, (blk_cell e0 1).trans rfl, (blk_cell e1 0).trans rfl, (blk_cell e1 1).trans rfl⟩, Kd.C_below (Kd.C_below (Kd.C_below HS0.out hB) hb) hX, Kd.C_below (Kd.C_below (Kd.C_below HS1.out hB) hb) hX, below_step (below_step hB hb) hX⟩
  have HF := Lib.hid F
  obtain ⟨⟨k0, k1, k2, k3⟩, _⟩ := F w1 (Below.refl _ _)
  clear F E0 E1 hB hb W HR0 HR1 HS0 HS1
  go_wp2
  clear k0 k1 k2 k3
  go_loopw [5, 6] (fun s5 s6 wr => ∃ (i : Nat), s5 = .int .i64 i ∧ i ≤ gs.length ∧ ∃ n, wr = w1.drewN n) (fun s5 _ _ => gs.length - (intOf s5).toNat)
  case atStart => exact ⟨0, rfl, Nat.zero_le _, 0, rfl⟩
  case round =>
    obtain ⟨i, rfl, hi, nd, rfl⟩ := hrel
    obtain ⟨⟨k0, k1, k2, k3⟩, hq0, hq1, hBB⟩ := HF.out w1 (Below.refl _ _)
    by_cases hlt : i < gs.length
    · have hd : decide ((i : Int) < (gs.length : Int)) = true := decide_eq_true (by omega)
      obtain ⟨a0, P0, e0, rfl, x0, y0⟩ := rows_at hq0 hlt
      obtain ⟨a1, P1, e1, rfl, x1, y1⟩ := rows_at hq1 hlt
      have hgl : (gs.getD i []).length ≤ 1000000 := HI.out _ (by rw [List.getD_eq_getElem?_getD, List.getElem?_eq_getElem hlt]; exact List.getElem_mem _)
      generalize gs.getD i [] = g at *
      have ge : (((g.length : Int)) != (g.length : Int)) = false := by simp
      go_wp2
      go_quiet (fail)
      go_wp2
      have Y0 := Lib.hid y0
      have Y1 := Lib.hid y1
      clear y0 y1
      go_loopw [6] (fun s6 wr => ∃ (j : Nat), s6 = .int .i64 j ∧ j ≤ g.length ∧ ∃ n, wr = w1.drewN n) (fun s6 _ => g.length - (intOf s6).toNat)
      case atStart => exact ⟨0, rfl, Nat.zero_le _, ⟨_, World.drewN_drewN _ _ _⟩⟩
      case round =>
        obtain ⟨j, rfl, hj, nj, rfl⟩ := hrel
        by_cases hjt : j < g.length
        · have hd2 : decide ((j : Int) < (g.length : Int)) = true := decide_eq_true (by omega)
          obtain ⟨z0, rfl, v0⟩ := int_at Y0.out hjt
          obtain ⟨z1, rfl, v1⟩ := int_at Y1.out hjt
          generalize g.getD j 0 = v at *
          have ve : (v != v) = false := by simp
          go_wp2
          go_quiet (fail)
          go_wp2
          exact ⟨⟨j + 1, by simp, by omega, _, rfl⟩, by simp [intOf]; omega⟩
        · have hd2 : decide ((j : Int) < (g.length : Int)) = false := decide_eq_false (by omega)
          go_wp2
          exact ⟨⟨i + 1, by simp, by omega, _, rfl⟩, by simp [intOf]; omega⟩
    · have hd : decide ((i : Int) < (gs.length : Int)) = false := decide_eq_false (by omega)
      go_wp2
      go_ret
      exact ⟨rfl, pw_below_drewN hBB nd⟩
end Go.Proofs.YteflfnjljjianaaGreatDoor.Qx
namespace Go.Proofs.YteflfnjljjianaaGreatDoor.Qx
open Go.RowKit Go.Proofs.YteflfnjljjianaaGreatDoorW.PrintWords Go.Proofs.YteflfnjljjianaaGreatDoorW.PrintLast Go.Proofs.YteflfnjljjianaaGreatDoorW.PrintMore
attribute [local go_sem] max2_int min2_int max_two min_two
set_option linter.unusedVariables false
set_option linter.unusedSimpArgs false
def value_first_int.l0 : Nat → Int → List Int → Int → Int → Option (Int)
  | 0, _, _, _, _ => none
  | k + 1, x3, x6, x7, x8 => if x8 < x7 then (if 0 ≤ x8 then (if x8 < (x6.length : Int) then (if (rd x6 x8) = x3 then (value_first_int.l0 k x3 x6 x7 (wrap64 (x8 + 1))) else (some (rd x6 x8))) else (none)) else (none)) else (some x3)
def value_first_int.f (k : Nat) (l0 : List Int) : Option (Int) := value_first_int.l0 k 0 l0 (l0.length : Int) 0
set_option maxHeartbeats 8000000 in
set_option maxRecDepth 100000 in
theorem value_first_int.calls (k : Nat) (A0 : Option Addr) (c0 : Nat) (l0 : List Int) (r : Int) (w : World) (hr0 : Kd.C (Kd.int .i64) w A0 l0.length l0) (hc0 : l0.length ≤ c0) (h : value_first_int.f k l0 = some r) :
    Calls Tryz.prog 105 #[.slice A0 l0.length c0] w fun e w' => e = .returned (.int .i64 r) ∧ Drawn0 w w' := by
  have HR0 := Aside0.mk hr0
  have HC0 := Aside0.mk hc0
  clear hr0 hc0
  have H : (value_first_int.l0 k 0 l0 (l0.length : Int) 0) = some r := h
  clear h
  have H' := Aside0.mk H
  clear H
  go_enter Tryz.func105, Tryz.ntmps105
  go_wp2
  go_loopg [8] k (fun kq v8 w' => ∃ (x8_1 : Int), v8 = .int .i64 x8_1 ∧ Aside0 (value_first_int.l0 kq 0 l0 (l0.length : Int) x8_1 = some r) ∧ Aside0 (kq ≤ k) ∧ Drawn0 w w')
  case atStart => exact ⟨(0), (by first | rfl | (simp; done) | (simp [*]; done)), H', ⟨Nat.le_refl _⟩, by repeat (first | exact Drawn0.refl _ | apply Drawn0.step)⟩
  case round =>
    clear H'
    try clear c1
    obtain ⟨x8_1, rfl, HA, HK1, ⟨m1, rfl⟩⟩ := hrel
    cases gk with
    | zero => exact absurd HA.out (by simp [value_first_int.l0])
    | succ k1 =>
      have H := HA.out
      clear HA
      simp only [value_first_int.l0] at H
      by_cases c2 : x8_1 < (l0.length : Int)
      · rw [if_pos c2] at H
        have c2b0 : decide (x8_1 < (l0.length : Int)) = true := decide_eq_true c2
        clear c2
        by_cases c3 : 0 ≤ x8_1
        · rw [if_pos c3] at H
          have c3b0 : decide (0 ≤ x8_1) = true := decide_eq_true c3
          clear c3
          by_cases c4 : x8_1 < (l0.length : Int)
          · rw [if_pos c4] at H
            have c4b0 : decide (x8_1 < (l0.length : Int)) = true := decide_eq_true c4
            clear c4
            by_cases c5 : (rd l0 x8_1) = 0
            · rw [if_pos c5] at H
              have c5b0 : ((rd l0 x8_1) == 0) = true := beq_iff_eq.mpr c5
              have c5b1 : ((rd l0 x8_1) != 0) = false := bne_eq_false_iff_eq.mpr c5
              clear c5
              have H' := Aside0.mk H
              clear H
              have p101 : 0 ≤ (x8_1 : Int) := of_decide_eq_true (by first | (with_reducible assumption) | assumption)
              have q101 : x8_1 < (l0.length : Int) := of_decide_eq_true (by first | (with_reducible assumption) | assumption)
              obtain ⟨ad101, e101, hx101_0⟩ := Kd.at_int HR0.out x8_1 p101 q101
              cases e101
              replace p101 := eq_true p101
              replace q101 := eq_true q101
              go_wp2
              go_roundg k1
              case measure => have := HK1.out; omega
              case rel => exact ⟨(wrap64 (x8_1 + 1)), (by first | rfl | (simp; done) | (simp [*]; done)), H', ⟨by have := HK1.out; omega⟩, by repeat (first | exact Drawn0.refl _ | apply Drawn0.step)⟩
            · rw [if_neg c5] at H
              have c5b0 : ((rd l0 x8_1) == 0) = false := beq_eq_false_iff_ne.mpr c5
              have c5b1 : ((rd l0 x8_1) != 0) = true := bne_iff_ne.mpr c5
              obtain rfl := Option.some.inj H
              have p101 : 0 ≤ (x8_1 : Int) := of_decide_eq_true (by first | (with_reducible assumption) | assumption)
              have q101 : x8_1 < (l0.length : Int) := of_decide_eq_true (by first | (with_reducible assumption) | assumption)
              obtain ⟨ad101, e101, hx101_0⟩ := Kd.at_int HR0.out x8_1 p101 q101
              cases e101
              replace p101 := eq_true p101
              replace q101 := eq_true q101
              go_wp2
              go_ret
              exact ⟨by first | rfl | (simp; done) | (simp [*]; done), by repeat (first | exact Drawn0.refl _ | apply Drawn0.step)⟩
          · rw [if_neg c4] at H
            exact absurd H (by simp)
        · rw [if_neg c3] at H
          exact absurd H (by simp)
      · rw [if_neg c2] at H
        have c2b0 : decide (x8_1 < (l0.length : Int)) = false := decide_eq_false c2
        clear c2
        obtain rfl := Option.some.inj H
        go_wp2
        go_ret
        exact ⟨by first | rfl | (simp; done) | (simp [*]; done), by repeat (first | exact Drawn0.refl _ | apply Drawn0.step)⟩
end Go.Proofs.YteflfnjljjianaaGreatDoor.Qx
namespace Go.Proofs.YteflfnjljjianaaGreatDoor.Qx
open Go.RowKit Go.Proofs.YteflfnjljjianaaGreatDoorW.PrintWords Go.Proofs.YteflfnjljjianaaGreatDoorW.PrintLast Go.Proofs.YteflfnjljjianaaGreatDoorW.PrintMore
attribute [local go_sem] max2_int min2_int max_two min_two
set_option linter.unusedVariables false
set_option linter.unusedSimpArgs false
def cmp_isNaN_int.f (a0 : Int) : Option (Bool) := some (a0 != a0)
set_option maxHeartbeats 8000000 in
set_option maxRecDepth 100000 in
theorem cmp_isNaN_int.calls (a0 : Int) (r : Bool) (w : World) (h : cmp_isNaN_int.f a0 = some r) :
    Calls Tryz.prog 137 #[.int .i64 a0] w fun e w' => e = .returned (.bool r) ∧ Drawn0 w w' := by
  have H : (some (a0 != a0)) = some r := h
  clear h
  obtain rfl := Option.some.inj H
  go_enter Tryz.func137, Tryz.ntmps137
  go_wp2
  go_ret
  exact ⟨by first | rfl | (simp; done) | (simp [*]; done), by repeat (first | exact Drawn0.refl _ | apply Drawn0.step)⟩
end Go.Proofs.YteflfnjljjianaaGreatDoor.Qx
namespace Go.Proofs.YteflfnjljjianaaGreatDoor.Qx
open Go.RowKit Go.Proofs.YteflfnjljjianaaGreatDoorW.PrintWords Go.Proofs.YteflfnjljjianaaGreatDoorW.PrintLast Go.Proofs.YteflfnjljjianaaGreatDoorW.PrintMore
attribute [local go_sem] max2_int min2_int max_two min_two
set_option linter.unusedVariables false
set_option linter.unusedSimpArgs false
def cmp_Compare_int.f (a0 : Int) (a1 : Int) : Option (Int) := (cmp_isNaN_int.f a0).bind fun t101 => ((cmp_isNaN_int.f a1).bind fun t102 => (if t101 = true then (if t102 = true then (some 0) else (some (-1))) else (if t102 = true then (some 1) else (if a0 < a1 then (some (-1)) else (if a0 > a1 then (some 1) else (some 0))))))
set_option maxHeartbeats 8000000 in
set_option maxRecDepth 100000 in
theorem cmp_Compare_int.calls (a0 : Int) (a1 : Int) (r : Int) (w : World) (h : cmp_Compare_int.f a0 a1 = some r) :
    Calls Tryz.prog 106 #[.int .i64 a0, .int .i64 a1] w fun e w' => e = .returned (.int .i64 r) ∧ Drawn0 w w' := by
  have H : ((cmp_isNaN_int.f a0).bind fun t101 => ((cmp_isNaN_int.f a1).bind fun t102 => (if t101 = true then (if t102 = true then (some 0) else (some (-1))) else (if t102 = true then (some 1) else (if a0 < a1 then (some (-1)) else (if a0 > a1 then (some 1) else (some 0))))))) = some r := h
  clear h
  replace H := Option.bind_eq_some_iff.mp H
  obtain ⟨t101, A30, H⟩ := H
  replace H : ((cmp_isNaN_int.f a1).bind fun t102 => (if t101 = true then (if t102 = true then (some 0) else (some (-1))) else (if t102 = true then (some 1) else (if a0 < a1 then (some (-1)) else (if a0 > a1 then (some 1) else (some 0)))))) = some r := H
  have A3 := Aside0.mk A30
  clear A30
  replace H := Option.bind_eq_some_iff.mp H
  obtain ⟨t102, A40, H⟩ := H
  replace H : (if t101 = true then (if t102 = true then (some 0) else (some (-1))) else (if t102 = true then (some 1) else (if a0 < a1 then (some (-1)) else (if a0 > a1 then (some 1) else (some 0))))) = some r := H
  have A4 := Aside0.mk A40
  clear A40
  by_cases c5 : t101 = true
  · subst c5
    have H1 : (if t102 = true then (some 0) else (some (-1))) = some r := by rw [if_pos rfl] at H; exact H
    clear H
    have H := H1
    clear H1
    by_cases c6 : t102 = true
    · subst c6
      have H1 : (some 0) = some r := by rw [if_pos rfl] at H; exact H
      clear H
      have H := H1
      clear H1
      obtain rfl := Option.some.inj H
      go_enter Tryz.func106, Tryz.ntmps106
      go_wp2_with (first | ((with_reducible refine gate_callee (f := 137) rfl ?_); refine goesL_ (some 8) rfl rfl Tryz.func137 (by kernel_rfl) rfl #[.int .i64 a0] rfl (by (try simp only [List.map_toArray, List.map_cons, List.map_nil]); first | done | rfl | (simp only [List.length_drop, List.length_take]; rfl)) ?_; (with_reducible refine (cmp_isNaN_int.calls a0 true _ A3.out).mono ?_); rintro e w' ⟨rfl, ⟨nd, rfl⟩⟩; refine ⟨_, rfl, ?_⟩) | ((with_reducible refine gate_callee (f := 137) rfl ?_); refine goesL_ (some 10) rfl rfl Tryz.func137 (by kernel_rfl) rfl #[.int .i64 a1] rfl (by (try simp only [List.map_toArray, List.map_cons, List.map_nil]); first | done | rfl | (simp only [List.length_drop, List.length_take]; rfl)) ?_; (with_reducible refine (cmp_isNaN_int.calls a1 true _ A4.out).mono ?_); rintro e w' ⟨rfl, ⟨nd, rfl⟩⟩; refine ⟨_, rfl, ?_⟩))
      go_ret
      exact ⟨by first | rfl | (simp; done) | (simp [*]; done), by repeat (first | exact Drawn0.refl _ | apply Drawn0.step)⟩
    · replace c6 := Bool.eq_false_iff.mpr c6
      subst c6
      have H1 : (some (-1)) = some r := by rw [if_neg (show ¬ (false = true) by decide)] at H; exact H
      clear H
      have H := H1
      clear H1
      obtain rfl := Option.some.inj H
      go_enter Tryz.func106, Tryz.ntmps106
      go_wp2_with (first | ((with_reducible refine gate_callee (f := 137) rfl ?_); refine goesL_ (some 8) rfl rfl Tryz.func137 (by kernel_rfl) rfl #[.int .i64 a0] rfl (by (try simp only [List.map_toArray, List.map_cons, List.map_nil]); first | done | rfl | (simp only [List.length_drop, List.length_take]; rfl)) ?_; (with_reducible refine (cmp_isNaN_int.calls a0 true _ A3.out).mono ?_); rintro e w' ⟨rfl, ⟨nd, rfl⟩⟩; refine ⟨_, rfl, ?_⟩) | ((with_reducible refine gate_callee (f := 137) rfl ?_); refine goesL_ (some 10) rfl rfl Tryz.func137 (by kernel_rfl) rfl #[.int .i64 a1] rfl (by (try simp only [List.map_toArray, List.map_cons, List.map_nil]); first | done | rfl | (simp only [List.length_drop, List.length_take]; rfl)) ?_; (with_reducible refine (cmp_isNaN_int.calls a1 false _ A4.out).mono ?_); rintro e w' ⟨rfl, ⟨nd, rfl⟩⟩; refine ⟨_, rfl, ?_⟩))
      go_ret
      exact ⟨by first | rfl | (simp; done) | (simp [*]; done), by repeat (first | exact Drawn0.refl _ | apply Drawn0.step)⟩
  · replace c5 := Bool.eq_false_iff.mpr c5
    subst c5
    have H1 : (if t102 = true then (some 1) else (if a0 < a1 then (some (-1)) else (if a0 > a1 then (some 1) else (some 0)))) = some r := by rw [if_neg (show ¬ (false = true) by decide)] at H; exact H
    clear H
    have H := H1
    clear H1
    by_cases c7 : t102 = true
    · subst c7
      have H1 : (some 1) = some r := by rw [if_pos rfl] at H; exact H
      clear H
      have H := H1
      clear H1
      obtain rfl := Option.some.inj H
      go_enter Tryz.func106, Tryz.ntmps106
      go_wp2_with (first | ((with_reducible refine gate_callee (f := 137) rfl ?_); refine goesL_ (some 8) rfl rfl Tryz.func137 (by kernel_rfl) rfl #[.int .i64 a0] rfl (by (try simp only [List.map_toArray, List.map_cons, List.map_nil]); first | done | rfl | (simp only [List.length_drop, List.length_take]; rfl)) ?_; (with_reducible refine (cmp_isNaN_int.calls a0 false _ A3.out).mono ?_); rintro e w' ⟨rfl, ⟨nd, rfl⟩⟩; refine ⟨_, rfl, ?_⟩) | ((with_reducible refine gate_callee (f := 137) rfl ?_); refine goesL_ (some 10) rfl rfl Tryz.func137 (by kernel_rfl) rfl #[.int .i64 a1] rfl (by (try simp only [List.map_toArray, List.map_cons, List.map_nil]); first | done | rfl | (simp only [List.length_drop, List.length_take]; rfl)) ?_; (with_reducible refine (cmp_isNaN_int.calls a1 true _ A4.out).mono ?_); rintro e w' ⟨rfl, ⟨nd, rfl⟩⟩; refine ⟨_, rfl, ?_⟩))
      go_ret
      exact ⟨by first | rfl | (simp; done) | (simp [*]; done), by repeat (first | exact Drawn0.refl _ | apply Drawn0.step)⟩
    · replace c7 := Bool.eq_false_iff.mpr c7
      subst c7
      have H1 : (if a0 < a1 then (some (-1)) else (if a0 > a1 then (some 1) else (some 0))) = some r := by rw [if_neg (show ¬ (false = true) by decide)] at H; exact H
      clear H
      have H := H1
      clear H1
      by_cases c8 : a0 < a1
      · rw [if_pos c8] at H
        have c8b0 : decide (a0 < a1) = true := decide_eq_true c8
        clear c8
        obtain rfl := Option.some.inj H
        go_enter Tryz.func106, Tryz.ntmps106
        go_wp2_with (first | ((with_reducible refine gate_callee (f := 137) rfl ?_); refine goesL_ (some 8) rfl rfl Tryz.func137 (by kernel_rfl) rfl #[.int .i64 a0] rfl (by (try simp only [List.map_toArray, List.map_cons, List.map_nil]); first | done | rfl | (simp only [List.length_drop, List.length_take]; rfl)) ?_; (with_reducible refine (cmp_isNaN_int.calls a0 false _ A3.out).mono ?_); rintro e w' ⟨rfl, ⟨nd, rfl⟩⟩; refine ⟨_, rfl, ?_⟩) | ((with_reducible refine gate_callee (f := 137) rfl ?_); refine goesL_ (some 10) rfl rfl Tryz.func137 (by kernel_rfl) rfl #[.int .i64 a1] rfl (by (try simp only [List.map_toArray, List.map_cons, List.map_nil]); first | done | rfl | (simp only [List.length_drop, List.length_take]; rfl)) ?_; (with_reducible refine (cmp_isNaN_int.calls a1 false _ A4.out).mono ?_); rintro e w' ⟨rfl, ⟨nd, rfl⟩⟩; refine ⟨_, rfl, ?_⟩))
        go_ret
        exact ⟨by first | rfl | (simp; done) | (simp [*]; done), by repeat (first | exact Drawn0.refl _ | apply Drawn0.step)⟩
      · rw [if_neg c8] at H
        have c8b0 : decide (a0 < a1) = false := decide_eq_false c8
        clear c8
        by_cases c9 : a0 > a1
        · rw [if_pos c9] at H
          have c9b0 : decide (a1 < a0) = true := decide_eq_true c9
          clear c9
          obtain rfl := Option.some.inj H
          go_enter Tryz.func106, Tryz.ntmps106
          go_wp2_with (first | ((with_reducible refine gate_callee (f := 137) rfl ?_); refine goesL_ (some 8) rfl rfl Tryz.func137 (by kernel_rfl) rfl #[.int .i64 a0] rfl (by (try simp only [List.map_toArray, List.map_cons, List.map_nil]); first | done | rfl | (simp only [List.length_drop, List.length_take]; rfl)) ?_; (with_reducible refine (cmp_isNaN_int.calls a0 false _ A3.out).mono ?_); rintro e w' ⟨rfl, ⟨nd, rfl⟩⟩; refine ⟨_, rfl, ?_⟩) | ((with_reducible refine gate_callee (f := 137) rfl ?_); refine goesL_ (some 10) rfl rfl Tryz.func137 (by kernel_rfl) rfl #[.int .i64 a1] rfl (by (try simp only [List.map_toArray, List.map_cons, List.map_nil]); first | done | rfl | (simp only [List.length_drop, List.length_take]; rfl)) ?_; (with_reducible refine (cmp_isNaN_int.calls a1 false _ A4.out).mono ?_); rintro e w' ⟨rfl, ⟨nd, rfl⟩⟩; refine ⟨_, rfl, ?_⟩))
          go_ret
          exact ⟨by first | rfl | (simp; done) | (simp [*]; done), by repeat (first | exact Drawn0.refl _ | apply Drawn0.step)⟩
        · rw [if_neg c9] at H
          have c9b0 : decide (a1 < a0) = false := decide_eq_false c9
          clear c9
          obtain rfl := Option.some.inj H
          go_enter Tryz.func106, Tryz.ntmps106
          go_wp2_with (first | ((with_reducible refine gate_callee (f := 137) rfl ?_); refine goesL_ (some 8) rfl rfl Tryz.func137 (by kernel_rfl) rfl #[.int .i64 a0] rfl (by (try simp only [List.map_toArray, List.map_cons, List.map_nil]); first | done | rfl | (simp only [List.length_drop, List.length_take]; rfl)) ?_; (with_reducible refine (cmp_isNaN_int.calls a0 false _ A3.out).mono ?_); rintro e w' ⟨rfl, ⟨nd, rfl⟩⟩; refine ⟨_, rfl, ?_⟩) | ((with_reducible refine gate_callee (f := 137) rfl ?_); refine goesL_ (some 10) rfl rfl Tryz.func137 (by kernel_rfl) rfl #[.int .i64 a1] rfl (by (try simp only [List.map_toArray, List.map_cons, List.map_nil]); first | done | rfl | (simp only [List.length_drop, List.length_take]; rfl)) ?_; (with_reducible refine (cmp_isNaN_int.calls a1 false _ A4.out).mono ?_); rintro e w' ⟨rfl, ⟨nd, rfl⟩⟩; refine ⟨_, rfl, ?_⟩))
          go_ret
          exact ⟨by first | rfl | (simp; done) | (simp [*]; done), by repeat (first | exact Drawn0.refl _ | apply Drawn0.step)⟩
end Go.Proofs.YteflfnjljjianaaGreatDoor.Qx
namespace Go.Proofs.YteflfnjljjianaaGreatDoor.Qx
open Go.RowKit Go.Proofs.YteflfnjljjianaaGreatDoorW.PrintWords Go.Proofs.YteflfnjljjianaaGreatDoorW.PrintLast Go.Proofs.YteflfnjljjianaaGreatDoorW.PrintMore
attribute [local go_sem] max2_int min2_int max_two min_two
set_option linter.unusedVariables false
set_option linter.unusedSimpArgs false
def cmp_isNaN_string.f (a0 : ByteArray) : Option (Bool) := some (a0.toList != a0.toList)
set_option maxHeartbeats 8000000 in
set_option maxRecDepth 100000 in
theorem cmp_isNaN_string.calls (a0 : ByteArray) (r : Bool) (w : World) (h : cmp_isNaN_string.f a0 = some r) :
    Calls Tryz.prog 138 #[.string a0] w fun e w' => e = .returned (.bool r) ∧ Drawn0 w w' := by
  have H : (some (a0.toList != a0.toList)) = some r := h
  clear h
  obtain rfl := Option.some.inj H
  go_enter Tryz.func138, Tryz.ntmps138
  go_wp2
  go_ret
  exact ⟨by first | rfl | (simp; done) | (simp [*]; done), by repeat (first | exact Drawn0.refl _ | apply Drawn0.step)⟩
end Go.Proofs.YteflfnjljjianaaGreatDoor.Qx
