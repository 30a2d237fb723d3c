/- Part of a proof of PartitionBucketsCardSaid: functions of the given program and what they compute, each checked by the kernel. -/
import Derived.Test.YteflfnjljjianaaGreatDoorPK02
import Derived.Test.YteflfnjljjianaaGreatDoorPK05
import Derived.Test.YteflfnjljjianaaGreatDoorPK03
import Derived.Test.YteflfnjljjianaaGreatDoorPK04
import Derived.Deep.RegionHeld3
import Derived.Test.YteflfnjljjianaaGreatDoorPK01
namespace Go.Proofs.YteflfnjljjianaaGreatDoor.Qx
open Go.RowKit Go.Proofs.YteflfnjljjianaaGreatDoorW.PrintWords Go.Proofs.YteflfnjljjianaaGreatDoorW.PrintLast Go.Proofs.YteflfnjljjianaaGreatDoorW.PrintMore
attribute [local go_sem] max2_int min2_int max_two min_two
set_option linter.unusedVariables false
set_option linter.unusedSimpArgs false
def partition_spec_isValue.f (k : Nat) (a0_0 a0_1 a0_2 : Int) (a1_0 a1_1 : Int) (a1_2 : Bool) (a2_0 a2_1 : Int) (a2_2 : ByteArray) : Option Bool :=
  (value_Has.f k a1_0 a1_1 a1_2 a2_0 a2_1 a2_2).bind fun h => if h = true then some true else if (a1_0 == 2) = true then if (a2_0 == 2) = true then (value_Wide.f k a2_0 a2_1 a2_2).bind fun b => if b = true then decimal_Fits.f a2_1 a1_1 else some false else some false else some false
set_option maxRecDepth 100000 in
set_option maxHeartbeats 4000000 in
theorem partition_spec_isValue.yes (k : Nat) (a0_0 a0_1 a0_2 : Int) (a1_0 a1_1 : Int) (a1_2 : Bool) (a2_0 a2_1 : Int) (a2_2 : ByteArray) (w : World) (hG : Laid w) (H1 : Hid (value_Has.f k a1_0 a1_1 a1_2 a2_0 a2_1 a2_2 = some true)) :
    Calls Tryz.prog 77 #[.agg #[.int .i64 a0_0, .int .i64 a0_1, .int .i64 a0_2], .agg #[.int .i64 a1_0, .int .i64 a1_1, .bool a1_2], .agg #[.int .i64 a2_0, .int .i64 a2_1, .string a2_2]] w fun e w' => e = .returned (.bool true) ∧ Below w.heap.size w w' := by
  have hu106 := Tryz.underlying106
  have hu63 := Tryz.underlying63
  have hu35 := Tryz.underlying35
  have HG := Lib.hid hG
  clear hG
  go_enter Tryz.func77, Tryz.ntmps77
  go_wp2_with fail
  have hB := Lib.hid ((((Below.refl _ w).alloc (Nat.le_refl _) (.cells #[.int .i64 a0_0, .int .i64 a0_1, .int .i64 a0_2] 106)).alloc (by simp only [World.size_alloc]; omega) (.cells #[.int .i64 a1_0, .int .i64 a1_1, .bool a1_2] 63)).alloc (by simp only [World.size_alloc]; omega) (.cells #[.int .i64 a2_0, .int .i64 a2_1, .string a2_2] 35))
  have k0_0 : (((w.alloc (.cells #[.int .i64 a0_0, .int .i64 a0_1, .int .i64 a0_2] 106)).alloc (.cells #[.int .i64 a1_0, .int .i64 a1_1, .bool a1_2] 63)).alloc (.cells #[.int .i64 a2_0, .int .i64 a2_1, .string a2_2] 35)).cell? ⟨w.heap.size, 0, none⟩ = some (.int .i64 a0_0) := by simp [go_sem]
  have k0_1 : (((w.alloc (.cells #[.int .i64 a0_0, .int .i64 a0_1, .int .i64 a0_2] 106)).alloc (.cells #[.int .i64 a1_0, .int .i64 a1_1, .bool a1_2] 63)).alloc (.cells #[.int .i64 a2_0, .int .i64 a2_1, .string a2_2] 35)).cell? ⟨w.heap.size, 1, none⟩ = some (.int .i64 a0_1) := by simp [go_sem]
  have k0_2 : (((w.alloc (.cells #[.int .i64 a0_0, .int .i64 a0_1, .int .i64 a0_2] 106)).alloc (.cells #[.int .i64 a1_0, .int .i64 a1_1, .bool a1_2] 63)).alloc (.cells #[.int .i64 a2_0, .int .i64 a2_1, .string a2_2] 35)).cell? ⟨w.heap.size, 2, none⟩ = some (.int .i64 a0_2) := by simp [go_sem]
  have k1_0 : (((w.alloc (.cells #[.int .i64 a0_0, .int .i64 a0_1, .int .i64 a0_2] 106)).alloc (.cells #[.int .i64 a1_0, .int .i64 a1_1, .bool a1_2] 63)).alloc (.cells #[.int .i64 a2_0, .int .i64 a2_1, .string a2_2] 35)).cell? ⟨w.heap.size + 1, 0, none⟩ = some (.int .i64 a1_0) := by simp [go_sem]
  have k1_1 : (((w.alloc (.cells #[.int .i64 a0_0, .int .i64 a0_1, .int .i64 a0_2] 106)).alloc (.cells #[.int .i64 a1_0, .int .i64 a1_1, .bool a1_2] 63)).alloc (.cells #[.int .i64 a2_0, .int .i64 a2_1, .string a2_2] 35)).cell? ⟨w.heap.size + 1, 1, none⟩ = some (.int .i64 a1_1) := by simp [go_sem]
  have k1_2 : (((w.alloc (.cells #[.int .i64 a0_0, .int .i64 a0_1, .int .i64 a0_2] 106)).alloc (.cells #[.int .i64 a1_0, .int .i64 a1_1, .bool a1_2] 63)).alloc (.cells #[.int .i64 a2_0, .int .i64 a2_1, .string a2_2] 35)).cell? ⟨w.heap.size + 1, 2, none⟩ = some (.bool a1_2) := by simp [go_sem]
  have k2_0 : (((w.alloc (.cells #[.int .i64 a0_0, .int .i64 a0_1, .int .i64 a0_2] 106)).alloc (.cells #[.int .i64 a1_0, .int .i64 a1_1, .bool a1_2] 63)).alloc (.cells #[.int .i64 a2_0, .int .i64 a2_1, .string a2_2] 35)).cell? ⟨w.heap.size + 1 + 1, 0, none⟩ = some (.int .i64 a2_0) := by simp [go_sem]
  have k2_1 : (((w.alloc (.cells #[.int .i64 a0_0, .int .i64 a0_1, .int .i64 a0_2] 106)).alloc (.cells #[.int .i64 a1_0, .int .i64 a1_1, .bool a1_2] 63)).alloc (.cells #[.int .i64 a2_0, .int .i64 a2_1, .string a2_2] 35)).cell? ⟨w.heap.size + 1 + 1, 1, none⟩ = some (.int .i64 a2_1) := by simp [go_sem]
  have k2_2 : (((w.alloc (.cells #[.int .i64 a0_0, .int .i64 a0_1, .int .i64 a0_2] 106)).alloc (.cells #[.int .i64 a1_0, .int .i64 a1_1, .bool a1_2] 63)).alloc (.cells #[.int .i64 a2_0, .int .i64 a2_1, .string a2_2] 35)).cell? ⟨w.heap.size + 1 + 1, 2, none⟩ = some (.string a2_2) := by simp [go_sem]
  have lt0 : w.heap.size < (((w.alloc (.cells #[.int .i64 a0_0, .int .i64 a0_1, .int .i64 a0_2] 106)).alloc (.cells #[.int .i64 a1_0, .int .i64 a1_1, .bool a1_2] 63)).alloc (.cells #[.int .i64 a2_0, .int .i64 a2_1, .string a2_2] 35)).heap.size := by simp only [World.size_alloc]; omega
  have lt1 : w.heap.size + 1 < (((w.alloc (.cells #[.int .i64 a0_0, .int .i64 a0_1, .int .i64 a0_2] 106)).alloc (.cells #[.int .i64 a1_0, .int .i64 a1_1, .bool a1_2] 63)).alloc (.cells #[.int .i64 a2_0, .int .i64 a2_1, .string a2_2] 35)).heap.size := by simp only [World.size_alloc]; omega
  have lt2 : w.heap.size + 1 + 1 < (((w.alloc (.cells #[.int .i64 a0_0, .int .i64 a0_1, .int .i64 a0_2] 106)).alloc (.cells #[.int .i64 a1_0, .int .i64 a1_1, .bool a1_2] 63)).alloc (.cells #[.int .i64 a2_0, .int .i64 a2_1, .string a2_2] 35)).heap.size := by simp only [World.size_alloc]; omega
  generalize ((w.alloc (.cells #[.int .i64 a0_0, .int .i64 a0_1, .int .i64 a0_2] 106)).alloc (.cells #[.int .i64 a1_0, .int .i64 a1_1, .bool a1_2] 63)).alloc (.cells #[.int .i64 a2_0, .int .i64 a2_1, .string a2_2] 35) = W at *
  clear lt0 lt1 lt2
  refine (value_Has.calls k _ _ _ _ _ _ true _ H1.out (HG.out.below hB.out)).mono ?_
  rintro e w1 ⟨rfl, hbn⟩
  replace k0_0 := pw_cell_below hbn k0_0
  replace k0_1 := pw_cell_below hbn k0_1
  replace k0_2 := pw_cell_below hbn k0_2
  replace k1_0 := pw_cell_below hbn k1_0
  replace k1_1 := pw_cell_below hbn k1_1
  replace k1_2 := pw_cell_below hbn k1_2
  replace k2_0 := pw_cell_below hbn k2_0
  replace k2_1 := pw_cell_below hbn k2_1
  replace k2_2 := pw_cell_below hbn k2_2
  replace hB := Lib.hid (below_then hB.out hB.out.size hbn)
  clear hbn
  go_wp2
  go_ret
  exact ⟨rfl, hB.out⟩
set_option maxRecDepth 100000 in
set_option maxHeartbeats 4000000 in
theorem partition_spec_isValue.no1 (k : Nat) (a0_0 a0_1 a0_2 : Int) (a1_0 a1_1 : Int) (a1_2 : Bool) (a2_0 a2_1 : Int) (a2_2 : ByteArray) (w : World) (hG : Laid w) (H1 : Hid (value_Has.f k a1_0 a1_1 a1_2 a2_0 a2_1 a2_2 = some false)) (b1 : (a1_0 == 2) = false) :
    Calls Tryz.prog 77 #[.agg #[.int .i64 a0_0, .int .i64 a0_1, .int .i64 a0_2], .agg #[.int .i64 a1_0, .int .i64 a1_1, .bool a1_2], .agg #[.int .i64 a2_0, .int .i64 a2_1, .string a2_2]] w fun e w' => e = .returned (.bool false) ∧ Below w.heap.size w w' := by
  have hu106 := Tryz.underlying106
  have hu63 := Tryz.underlying63
  have hu35 := Tryz.underlying35
  have HG := Lib.hid hG
  clear hG
  go_enter Tryz.func77, Tryz.ntmps77
  go_wp2_with fail
  have hB := Lib.hid ((((Below.refl _ w).alloc (Nat.le_refl _) (.cells #[.int .i64 a0_0, .int .i64 a0_1, .int .i64 a0_2] 106)).alloc (by simp only [World.size_alloc]; omega) (.cells #[.int .i64 a1_0, .int .i64 a1_1, .bool a1_2] 63)).alloc (by simp only [World.size_alloc]; omega) (.cells #[.int .i64 a2_0, .int .i64 a2_1, .string a2_2] 35))
  have k0_0 : (((w.alloc (.cells #[.int .i64 a0_0, .int .i64 a0_1, .int .i64 a0_2] 106)).alloc (.cells #[.int .i64 a1_0, .int .i64 a1_1, .bool a1_2] 63)).alloc (.cells #[.int .i64 a2_0, .int .i64 a2_1, .string a2_2] 35)).cell? ⟨w.heap.size, 0, none⟩ = some (.int .i64 a0_0) := by simp [go_sem]
  have k0_1 : (((w.alloc (.cells #[.int .i64 a0_0, .int .i64 a0_1, .int .i64 a0_2] 106)).alloc (.cells #[.int .i64 a1_0, .int .i64 a1_1, .bool a1_2] 63)).alloc (.cells #[.int .i64 a2_0, .int .i64 a2_1, .string a2_2] 35)).cell? ⟨w.heap.size, 1, none⟩ = some (.int .i64 a0_1) := by simp [go_sem]
  have k0_2 : (((w.alloc (.cells #[.int .i64 a0_0, .int .i64 a0_1, .int .i64 a0_2] 106)).alloc (.cells #[.int .i64 a1_0, .int .i64 a1_1, .bool a1_2] 63)).alloc (.cells #[.int .i64 a2_0, .int .i64 a2_1, .string a2_2] 35)).cell? ⟨w.heap.size, 2, none⟩ = some (.int .i64 a0_2) := by simp [go_sem]
  have k1_0 : (((w.alloc (.cells #[.int .i64 a0_0, .int .i64 a0_1, .int .i64 a0_2] 106)).alloc (.cells #[.int .i64 a1_0, .int .i64 a1_1, .bool a1_2] 63)).alloc (.cells #[.int .i64 a2_0, .int .i64 a2_1, .string a2_2] 35)).cell? ⟨w.heap.size + 1, 0, none⟩ = some (.int .i64 a1_0) := by simp [go_sem]
  have k1_1 : (((w.alloc (.cells #[.int .i64 a0_0, .int .i64 a0_1, .int .i64 a0_2] 106)).alloc (.cells #[.int .i64 a1_0, .int .i64 a1_1, .bool a1_2] 63)).alloc (.cells #[.int .i64 a2_0, .int .i64 a2_1, .string a2_2] 35)).cell? ⟨w.heap.size + 1, 1, none⟩ = some (.int .i64 a1_1) := by simp [go_sem]
  have k1_2 : (((w.alloc (.cells #[.int .i64 a0_0, .int .i64 a0_1, .int .i64 a0_2] 106)).alloc (.cells #[.int .i64 a1_0, .int .i64 a1_1, .bool a1_2] 63)).alloc (.cells #[.int .i64 a2_0, .int .i64 a2_1, .string a2_2] 35)).cell? ⟨w.heap.size + 1, 2, none⟩ = some (.bool a1_2) := by simp [go_sem]
  have k2_0 : (((w.alloc (.cells #[.int .i64 a0_0, .int .i64 a0_1, .int .i64 a0_2] 106)).alloc (.cells #[.int .i64 a1_0, .int .i64 a1_1, .bool a1_2] 63)).alloc (.cells #[.int .i64 a2_0, .int .i64 a2_1, .string a2_2] 35)).cell? ⟨w.heap.size + 1 + 1, 0, none⟩ = some (.int .i64 a2_0) := by simp [go_sem]
  have k2_1 : (((w.alloc (.cells #[.int .i64 a0_0, .int .i64 a0_1, .int .i64 a0_2] 106)).alloc (.cells #[.int .i64 a1_0, .int .i64 a1_1, .bool a1_2] 63)).alloc (.cells #[.int .i64 a2_0, .int .i64 a2_1, .string a2_2] 35)).cell? ⟨w.heap.size + 1 + 1, 1, none⟩ = some (.int .i64 a2_1) := by simp [go_sem]
  have k2_2 : (((w.alloc (.cells #[.int .i64 a0_0, .int .i64 a0_1, .int .i64 a0_2] 106)).alloc (.cells #[.int .i64 a1_0, .int .i64 a1_1, .bool a1_2] 63)).alloc (.cells #[.int .i64 a2_0, .int .i64 a2_1, .string a2_2] 35)).cell? ⟨w.heap.size + 1 + 1, 2, none⟩ = some (.string a2_2) := by simp [go_sem]
  have lt0 : w.heap.size < (((w.alloc (.cells #[.int .i64 a0_0, .int .i64 a0_1, .int .i64 a0_2] 106)).alloc (.cells #[.int .i64 a1_0, .int .i64 a1_1, .bool a1_2] 63)).alloc (.cells #[.int .i64 a2_0, .int .i64 a2_1, .string a2_2] 35)).heap.size := by simp only [World.size_alloc]; omega
  have lt1 : w.heap.size + 1 < (((w.alloc (.cells #[.int .i64 a0_0, .int .i64 a0_1, .int .i64 a0_2] 106)).alloc (.cells #[.int .i64 a1_0, .int .i64 a1_1, .bool a1_2] 63)).alloc (.cells #[.int .i64 a2_0, .int .i64 a2_1, .string a2_2] 35)).heap.size := by simp only [World.size_alloc]; omega
  have lt2 : w.heap.size + 1 + 1 < (((w.alloc (.cells #[.int .i64 a0_0, .int .i64 a0_1, .int .i64 a0_2] 106)).alloc (.cells #[.int .i64 a1_0, .int .i64 a1_1, .bool a1_2] 63)).alloc (.cells #[.int .i64 a2_0, .int .i64 a2_1, .string a2_2] 35)).heap.size := by simp only [World.size_alloc]; omega
  generalize ((w.alloc (.cells #[.int .i64 a0_0, .int .i64 a0_1, .int .i64 a0_2] 106)).alloc (.cells #[.int .i64 a1_0, .int .i64 a1_1, .bool a1_2] 63)).alloc (.cells #[.int .i64 a2_0, .int .i64 a2_1, .string a2_2] 35) = W at *
  clear lt0 lt1 lt2
  refine (value_Has.calls k _ _ _ _ _ _ false _ H1.out (HG.out.below hB.out)).mono ?_
  rintro e w1 ⟨rfl, hbn⟩
  replace k0_0 := pw_cell_below hbn k0_0
  replace k0_1 := pw_cell_below hbn k0_1
  replace k0_2 := pw_cell_below hbn k0_2
  replace k1_0 := pw_cell_below hbn k1_0
  replace k1_1 := pw_cell_below hbn k1_1
  replace k1_2 := pw_cell_below hbn k1_2
  replace k2_0 := pw_cell_below hbn k2_0
  replace k2_1 := pw_cell_below hbn k2_1
  replace k2_2 := pw_cell_below hbn k2_2
  replace hB := Lib.hid (below_then hB.out hB.out.size hbn)
  clear hbn
  go_wp2
  go_ret
  exact ⟨rfl, hB.out⟩
set_option maxRecDepth 100000 in
set_option maxHeartbeats 4000000 in
theorem partition_spec_isValue.no2 (k : Nat) (a0_0 a0_1 a0_2 : Int) (a1_0 a1_1 : Int) (a1_2 : Bool) (a2_0 a2_1 : Int) (a2_2 : ByteArray) (w : World) (hG : Laid w) (H1 : Hid (value_Has.f k a1_0 a1_1 a1_2 a2_0 a2_1 a2_2 = some false)) (b1 : (a1_0 == 2) = true) (b2 : (a2_0 == 2) = false) :
    Calls Tryz.prog 77 #[.agg #[.int .i64 a0_0, .int .i64 a0_1, .int .i64 a0_2], .agg #[.int .i64 a1_0, .int .i64 a1_1, .bool a1_2], .agg #[.int .i64 a2_0, .int .i64 a2_1, .string a2_2]] w fun e w' => e = .returned (.bool false) ∧ Below w.heap.size w w' := by
  have hu106 := Tryz.underlying106
  have hu63 := Tryz.underlying63
  have hu35 := Tryz.underlying35
  have HG := Lib.hid hG
  clear hG
  go_enter Tryz.func77, Tryz.ntmps77
  go_wp2_with fail
  have hB := Lib.hid ((((Below.refl _ w).alloc (Nat.le_refl _) (.cells #[.int .i64 a0_0, .int .i64 a0_1, .int .i64 a0_2] 106)).alloc (by simp only [World.size_alloc]; omega) (.cells #[.int .i64 a1_0, .int .i64 a1_1, .bool a1_2] 63)).alloc (by simp only [World.size_alloc]; omega) (.cells #[.int .i64 a2_0, .int .i64 a2_1, .string a2_2] 35))
  have k0_0 : (((w.alloc (.cells #[.int .i64 a0_0, .int .i64 a0_1, .int .i64 a0_2] 106)).alloc (.cells #[.int .i64 a1_0, .int .i64 a1_1, .bool a1_2] 63)).alloc (.cells #[.int .i64 a2_0, .int .i64 a2_1, .string a2_2] 35)).cell? ⟨w.heap.size, 0, none⟩ = some (.int .i64 a0_0) := by simp [go_sem]
  have k0_1 : (((w.alloc (.cells #[.int .i64 a0_0, .int .i64 a0_1, .int .i64 a0_2] 106)).alloc (.cells #[.int .i64 a1_0, .int .i64 a1_1, .bool a1_2] 63)).alloc (.cells #[.int .i64 a2_0, .int .i64 a2_1, .string a2_2] 35)).cell? ⟨w.heap.size, 1, none⟩ = some (.int .i64 a0_1) := by simp [go_sem]
  have k0_2 : (((w.alloc (.cells #[.int .i64 a0_0, .int .i64 a0_1, .int .i64 a0_2] 106)).alloc (.cells #[.int .i64 a1_0, .int .i64 a1_1, .bool a1_2] 63)).alloc (.cells #[.int .i64 a2_0, .int .i64 a2_1, .string a2_2] 35)).cell? ⟨w.heap.size, 2, none⟩ = some (.int .i64 a0_2) := by simp [go_sem]
  have k1_0 : (((w.alloc (.cells #[.int .i64 a0_0, .int .i64 a0_1, .int .i64 a0_2] 106)).alloc (.cells #[.int .i64 a1_0, .int .i64 a1_1, .bool a1_2] 63)).alloc (.cells #[.int .i64 a2_0, .int .i64 a2_1, .string a2_2] 35)).cell? ⟨w.heap.size + 1, 0, none⟩ = some (.int .i64 a1_0) := by simp [go_sem]
  have k1_1 : (((w.alloc (.cells #[.int .i64 a0_0, .int .i64 a0_1, .int .i64 a0_2] 106)).alloc (.cells #[.int .i64 a1_0, .int .i64 a1_1, .bool a1_2] 63)).alloc (.cells #[.int .i64 a2_0, .int .i64 a2_1, .string a2_2] 35)).cell? ⟨w.heap.size + 1, 1, none⟩ = some (.int .i64 a1_1) := by simp [go_sem]
  have k1_2 : (((w.alloc (.cells #[.int .i64 a0_0, .int .i64 a0_1, .int .i64 a0_2] 106)).alloc (.cells #[.int .i64 a1_0, .int .i64 a1_1, .bool a1_2] 63)).alloc (.cells #[.int .i64 a2_0, .int .i64 a2_1, .string a2_2] 35)).cell? ⟨w.heap.size + 1, 2, none⟩ = some (.bool a1_2) := by simp [go_sem]
  have k2_0 : (((w.alloc (.cells #[.int .i64 a0_0, .int .i64 a0_1, .int .i64 a0_2] 106)).alloc (.cells #[.int .i64 a1_0, .int .i64 a1_1, .bool a1_2] 63)).alloc (.cells #[.int .i64 a2_0, .int .i64 a2_1, .string a2_2] 35)).cell? ⟨w.heap.size + 1 + 1, 0, none⟩ = some (.int .i64 a2_0) := by simp [go_sem]
  have k2_1 : (((w.alloc (.cells #[.int .i64 a0_0, .int .i64 a0_1, .int .i64 a0_2] 106)).alloc (.cells #[.int .i64 a1_0, .int .i64 a1_1, .bool a1_2] 63)).alloc (.cells #[.int .i64 a2_0, .int .i64 a2_1, .string a2_2] 35)).cell? ⟨w.heap.size + 1 + 1, 1, none⟩ = some (.int .i64 a2_1) := by simp [go_sem]
  have k2_2 : (((w.alloc (.cells #[.int .i64 a0_0, .int .i64 a0_1, .int .i64 a0_2] 106)).alloc (.cells #[.int .i64 a1_0, .int .i64 a1_1, .bool a1_2] 63)).alloc (.cells #[.int .i64 a2_0, .int .i64 a2_1, .string a2_2] 35)).cell? ⟨w.heap.size + 1 + 1, 2, none⟩ = some (.string a2_2) := by simp [go_sem]
  have lt0 : w.heap.size < (((w.alloc (.cells #[.int .i64 a0_0, .int .i64 a0_1, .int .i64 a0_2] 106)).alloc (.cells #[.int .i64 a1_0, .int .i64 a1_1, .bool a1_2] 63)).alloc (.cells #[.int .i64 a2_0, .int .i64 a2_1, .string a2_2] 35)).heap.size := by simp only [World.size_alloc]; omega
  have lt1 : w.heap.size + 1 < (((w.alloc (.cells #[.int .i64 a0_0, .int .i64 a0_1, .int .i64 a0_2] 106)).alloc (.cells #[.int .i64 a1_0, .int .i64 a1_1, .bool a1_2] 63)).alloc (.cells #[.int .i64 a2_0, .int .i64 a2_1, .string a2_2] 35)).heap.size := by simp only [World.size_alloc]; omega
  have lt2 : w.heap.size + 1 + 1 < (((w.alloc (.cells #[.int .i64 a0_0, .int .i64 a0_1, .int .i64 a0_2] 106)).alloc (.cells #[.int .i64 a1_0, .int .i64 a1_1, .bool a1_2] 63)).alloc (.cells #[.int .i64 a2_0, .int .i64 a2_1, .string a2_2] 35)).heap.size := by simp only [World.size_alloc]; omega
  generalize ((w.alloc (.cells #[.int .i64 a0_0, .int .i64 a0_1, .int .i64 a0_2] 106)).alloc (.cells #[.int .i64 a1_0, .int .i64 a1_1, .bool a1_2] 63)).alloc (.cells #[.int .i64 a2_0, .int .i64 a2_1, .string a2_2] 35) = W at *
  clear lt0 lt1 lt2
  refine (value_Has.calls k _ _ _ _ _ _ false _ H1.out (HG.out.below hB.out)).mono ?_
  rintro e w1 ⟨rfl, hbn⟩
  replace k0_0 := pw_cell_below hbn k0_0
  replace k0_1 := pw_cell_below hbn k0_1
  replace k0_2 := pw_cell_below hbn k0_2
  replace k1_0 := pw_cell_below hbn k1_0
  replace k1_1 := pw_cell_below hbn k1_1
  replace k1_2 := pw_cell_below hbn k1_2
  replace k2_0 := pw_cell_below hbn k2_0
  replace k2_1 := pw_cell_below hbn k2_1
  replace k2_2 := pw_cell_below hbn k2_2
  replace hB := Lib.hid (below_then hB.out hB.out.size hbn)
  clear hbn
  go_wp2
  go_ret
  exact ⟨rfl, hB.out⟩
set_option maxRecDepth 100000 in
set_option maxHeartbeats 4000000 in
theorem partition_spec_isValue.no3 (k : Nat) (a0_0 a0_1 a0_2 : Int) (a1_0 a1_1 : Int) (a1_2 : Bool) (a2_0 a2_1 : Int) (a2_2 : ByteArray) (w : World) (hG : Laid w) (H1 : Hid (value_Has.f k a1_0 a1_1 a1_2 a2_0 a2_1 a2_2 = some false)) (b1 : (a1_0 == 2) = true) (b2 : (a2_0 == 2) = true) (H2 : Hid (value_Wide.f k a2_0 a2_1 a2_2 = some false)) :
    Calls Tryz.prog 77 #[.agg #[.int .i64 a0_0, .int .i64 a0_1, .int .i64 a0_2], .agg #[.int .i64 a1_0, .int .i64 a1_1, .bool a1_2], .agg #[.int .i64 a2_0, .int .i64 a2_1, .string a2_2]] w fun e w' => e = .returned (.bool false) ∧ Below w.heap.size w w' := by
  have hu106 := Tryz.underlying106
  have hu63 := Tryz.underlying63
  have hu35 := Tryz.underlying35
  have HG := Lib.hid hG
  clear hG
  go_enter Tryz.func77, Tryz.ntmps77
  go_wp2_with fail
  have hB := Lib.hid ((((Below.refl _ w).alloc (Nat.le_refl _) (.cells #[.int .i64 a0_0, .int .i64 a0_1, .int .i64 a0_2] 106)).alloc (by simp only [World.size_alloc]; omega) (.cells #[.int .i64 a1_0, .int .i64 a1_1, .bool a1_2] 63)).alloc (by simp only [World.size_alloc]; omega) (.cells #[.int .i64 a2_0, .int .i64 a2_1, .string a2_2] 35))
  have k0_0 : (((w.alloc (.cells #[.int .i64 a0_0, .int .i64 a0_1, .int .i64 a0_2] 106)).alloc (.cells #[.int .i64 a1_0, .int .i64 a1_1, .bool a1_2] 63)).alloc (.cells #[.int .i64 a2_0, .int .i64 a2_1, .string a2_2] 35)).cell? ⟨w.heap.size, 0, none⟩ = some (.int .i64 a0_0) := by simp [go_sem]
  have k0_1 : (((w.alloc (.cells #[.int .i64 a0_0, .int .i64 a0_1, .int .i64 a0_2] 106)).alloc (.cells #[.int .i64 a1_0, .int .i64 a1_1, .bool a1_2] 63)).alloc (.cells #[.int .i64 a2_0, .int .i64 a2_1, .string a2_2] 35)).cell? ⟨w.heap.size, 1, none⟩ = some (.int .i64 a0_1) := by simp [go_sem]
  have k0_2 : (((w.alloc (.cells #[.int .i64 a0_0, .int .i64 a0_1, .int .i64 a0_2] 106)).alloc (.cells #[.int .i64 a1_0, .int .i64 a1_1, .bool a1_2] 63)).alloc (.cells #[.int .i64 a2_0, .int .i64 a2_1, .string a2_2] 35)).cell? ⟨w.heap.size, 2, none⟩ = some (.int .i64 a0_2) := by simp [go_sem]
  have k1_0 : (((w.alloc (.cells #[.int .i64 a0_0, .int .i64 a0_1, .int .i64 a0_2] 106)).alloc (.cells #[.int .i64 a1_0, .int .i64 a1_1, .bool a1_2] 63)).alloc (.cells #[.int .i64 a2_0, .int .i64 a2_1, .string a2_2] 35)).cell? ⟨w.heap.size + 1, 0, none⟩ = some (.int .i64 a1_0) := by simp [go_sem]
  have k1_1 : (((w.alloc (.cells #[.int .i64 a0_0, .int .i64 a0_1, .int .i64 a0_2] 106)).alloc (.cells #[.int .i64 a1_0, .int .i64 a1_1, .bool a1_2] 63)).alloc (.cells #[.int .i64 a2_0, .int .i64 a2_1, .string a2_2] 35)).cell? ⟨w.heap.size + 1, 1, none⟩ = some (.int .i64 a1_1) := by simp [go_sem]
  have k1_2 : (((w.alloc (.cells #[.int .i64 a0_0, .int .i64 a0_1, .int .i64 a0_2] 106)).alloc (.cells #[.int .i64 a1_0, .int .i64 a1_1, .bool a1_2] 63)).alloc (.cells #[.int .i64 a2_0, .int .i64 a2_1, .string a2_2] 35)).cell? ⟨w.heap.size + 1, 2, none⟩ = some (.bool a1_2) := by simp [go_sem]
  have k2_0 : (((w.alloc (.cells #[.int .i64 a0_0, .int .i64 a0_1, .int .i64 a0_2] 106)).alloc (.cells #[.int .i64 a1_0, .int .i64 a1_1, .bool a1_2] 63)).alloc (.cells #[.int .i64 a2_0, .int .i64 a2_1, .string a2_2] 35)).cell? ⟨w.heap.size + 1 + 1, 0, none⟩ = some (.int .i64 a2_0) := by simp [go_sem]
  have k2_1 : (((w.alloc (.cells #[.int .i64 a0_0, .int .i64 a0_1, .int .i64 a0_2] 106)).alloc (.cells #[.int .i64 a1_0, .int .i64 a1_1, .bool a1_2] 63)).alloc (.cells #[.int .i64 a2_0, .int .i64 a2_1, .string a2_2] 35)).cell? ⟨w.heap.size + 1 + 1, 1, none⟩ = some (.int .i64 a2_1) := by simp [go_sem]
  have k2_2 : (((w.alloc (.cells #[.int .i64 a0_0, .int .i64 a0_1, .int .i64 a0_2] 106)).alloc (.cells #[.int .i64 a1_0, .int .i64 a1_1, .bool a1_2] 63)).alloc (.cells #[.int .i64 a2_0, .int .i64 a2_1, .string a2_2] 35)).cell? ⟨w.heap.size + 1 + 1, 2, none⟩ = some (.string a2_2) := by simp [go_sem]
  have lt0 : w.heap.size < (((w.alloc (.cells #[.int .i64 a0_0, .int .i64 a0_1, .int .i64 a0_2] 106)).alloc (.cells #[.int .i64 a1_0, .int .i64 a1_1, .bool a1_2] 63)).alloc (.cells #[.int .i64 a2_0, .int .i64 a2_1, .string a2_2] 35)).heap.size := by simp only [World.size_alloc]; omega
  have lt1 : w.heap.size + 1 < (((w.alloc (.cells #[.int .i64 a0_0, .int .i64 a0_1, .int .i64 a0_2] 106)).alloc (.cells #[.int .i64 a1_0, .int .i64 a1_1, .bool a1_2] 63)).alloc (.cells #[.int .i64 a2_0, .int .i64 a2_1, .string a2_2] 35)).heap.size := by simp only [World.size_alloc]; omega
  have lt2 : w.heap.size + 1 + 1 < (((w.alloc (.cells #[.int .i64 a0_0, .int .i64 a0_1, .int .i64 a0_2] 106)).alloc (.cells #[.int .i64 a1_0, .int .i64 a1_1, .bool a1_2] 63)).alloc (.cells #[.int .i64 a2_0, .int .i64 a2_1, .string a2_2] 35)).heap.size := by simp only [World.size_alloc]; omega
  generalize ((w.alloc (.cells #[.int .i64 a0_0, .int .i64 a0_1, .int .i64 a0_2] 106)).alloc (.cells #[.int .i64 a1_0, .int .i64 a1_1, .bool a1_2] 63)).alloc (.cells #[.int .i64 a2_0, .int .i64 a2_1, .string a2_2] 35) = W at *
  clear lt0 lt1 lt2
  refine (value_Has.calls k _ _ _ _ _ _ false _ H1.out (HG.out.below hB.out)).mono ?_
  rintro e w1 ⟨rfl, hbn⟩
  replace k0_0 := pw_cell_below hbn k0_0
  replace k0_1 := pw_cell_below hbn k0_1
  replace k0_2 := pw_cell_below hbn k0_2
  replace k1_0 := pw_cell_below hbn k1_0
  replace k1_1 := pw_cell_below hbn k1_1
  replace k1_2 := pw_cell_below hbn k1_2
  replace k2_0 := pw_cell_below hbn k2_0
  replace k2_1 := pw_cell_below hbn k2_1
  replace k2_2 := pw_cell_below hbn k2_2
  replace hB := Lib.hid (below_then hB.out hB.out.size hbn)
  clear hbn
  go_wp2_with fail
  refine (value_Wide.calls k _ _ _ false _ H2.out).mono ?_
  rintro e w2 ⟨rfl, hbn⟩
  replace k0_0 := pw_cell_below hbn k0_0
  replace k0_1 := pw_cell_below hbn k0_1
  replace k0_2 := pw_cell_below hbn k0_2
  replace k1_0 := pw_cell_below hbn k1_0
  replace k1_1 := pw_cell_below hbn k1_1
  replace k1_2 := pw_cell_below hbn k1_2
  replace k2_0 := pw_cell_below hbn k2_0
  replace k2_1 := pw_cell_below hbn k2_1
  replace k2_2 := pw_cell_below hbn k2_2
  replace hB := Lib.hid (below_then hB.out hB.out.size hbn)
  clear hbn
  go_wp2
  go_ret
  exact ⟨rfl, hB.out⟩
set_option maxRecDepth 100000 in
set_option maxHeartbeats 4000000 in
theorem partition_spec_isValue.last (k : Nat) (a0_0 a0_1 a0_2 : Int) (a1_0 a1_1 : Int) (a1_2 : Bool) (a2_0 a2_1 : Int) (a2_2 : ByteArray) (w : World) (hG : Laid w) (H1 : Hid (value_Has.f k a1_0 a1_1 a1_2 a2_0 a2_1 a2_2 = some false)) (b1 : (a1_0 == 2) = true) (b2 : (a2_0 == 2) = true) (H2 : Hid (value_Wide.f k a2_0 a2_1 a2_2 = some true)) (r : Bool) (H3 : Hid (decimal_Fits.f a2_1 a1_1 = some r)) :
    Calls Tryz.prog 77 #[.agg #[.int .i64 a0_0, .int .i64 a0_1, .int .i64 a0_2], .agg #[.int .i64 a1_0, .int .i64 a1_1, .bool a1_2], .agg #[.int .i64 a2_0, .int .i64 a2_1, .string a2_2]] w fun e w' => e = .returned (.bool r) ∧ Below w.heap.size w w' := by
  have hu106 := Tryz.underlying106
  have hu63 := Tryz.underlying63
  have hu35 := Tryz.underlying35
  have HG := Lib.hid hG
  clear hG
  go_enter Tryz.func77, Tryz.ntmps77
  go_wp2_with fail
  have hB := Lib.hid ((((Below.refl _ w).alloc (Nat.le_refl _) (.cells #[.int .i64 a0_0, .int .i64 a0_1, .int .i64 a0_2] 106)).alloc (by simp only [World.size_alloc]; omega) (.cells #[.int .i64 a1_0, .int .i64 a1_1, .bool a1_2] 63)).alloc (by simp only [World.size_alloc]; omega) (.cells #[.int .i64 a2_0, .int .i64 a2_1, .string a2_2] 35))
  have k0_0 : (((w.alloc (.cells #[.int .i64 a0_0, .int .i64 a0_1, .int .i64 a0_2] 106)).alloc (.cells #[.int .i64 a1_0, .int .i64 a1_1, .bool a1_2] 63)).alloc (.cells #[.int .i64 a2_0, .int .i64 a2_1, .string a2_2] 35)).cell? ⟨w.heap.size, 0, none⟩ = some (.int .i64 a0_0) := by simp [go_sem]
  have k0_1 : (((w.alloc (.cells #[.int .i64 a0_0, .int .i64 a0_1, .int .i64 a0_2] 106)).alloc (.cells #[.int .i64 a1_0, .int .i64 a1_1, .bool a1_2] 63)).alloc (.cells #[.int .i64 a2_0, .int .i64 a2_1, .string a2_2] 35)).cell? ⟨w.heap.size, 1, none⟩ = some (.int .i64 a0_1) := by simp [go_sem]
  have k0_2 : (((w.alloc (.cells #[.int .i64 a0_0, .int .i64 a0_1, .int .i64 a0_2] 106)).alloc (.cells #[.int .i64 a1_0, .int .i64 a1_1, .bool a1_2] 63)).alloc (.cells #[.int .i64 a2_0, .int .i64 a2_1, .string a2_2] 35)).cell? ⟨w.heap.size, 2, none⟩ = some (.int .i64 a0_2) := by simp [go_sem]
  have k1_0 : (((w.alloc (.cells #[.int .i64 a0_0, .int .i64 a0_1, .int .i64 a0_2] 106)).alloc (.cells #[.int .i64 a1_0, .int .i64 a1_1, .bool a1_2] 63)).alloc (.cells #[.int .i64 a2_0, .int .i64 a2_1, .string a2_2] 35)).cell? ⟨w.heap.size + 1, 0, none⟩ = some (.int .i64 a1_0) := by simp [go_sem]
  have k1_1 : (((w.alloc (.cells #[.int .i64 a0_0, .int .i64 a0_1, .int .i64 a0_2] 106)).alloc (.cells #[.int .i64 a1_0, .int .i64 a1_1, .bool a1_2] 63)).alloc (.cells #[.int .i64 a2_0, .int .i64 a2_1, .string a2_2] 35)).cell? ⟨w.heap.size + 1, 1, none⟩ = some (.int .i64 a1_1) := by simp [go_sem]
  have k1_2 : (((w.alloc (.cells #[.int .i64 a0_0, .int .i64 a0_1, .int .i64 a0_2] 106)).alloc (.cells #[.int .i64 a1_0, .int .i64 a1_1, .bool a1_2] 63)).alloc (.cells #[.int .i64 a2_0, .int .i64 a2_1, .string a2_2] 35)).cell? ⟨w.heap.size + 1, 2, none⟩ = some (.bool a1_2) := by simp [go_sem]
  have k2_0 : (((w.alloc (.cells #[.int .i64 a0_0, .int .i64 a0_1, .int .i64 a0_2] 106)).alloc (.cells #[.int .i64 a1_0, .int .i64 a1_1, .bool a1_2] 63)).alloc (.cells #[.int .i64 a2_0, .int .i64 a2_1, .string a2_2] 35)).cell? ⟨w.heap.size + 1 + 1, 0, none⟩ = some (.int .i64 a2_0) := by simp [go_sem]
  have k2_1 : (((w.alloc (.cells #[.int .i64 a0_0, .int .i64 a0_1, .int .i64 a0_2] 106)).alloc (.cells #[.int .i64 a1_0, .int .i64 a1_1, .bool a1_2] 63)).alloc (.cells #[.int .i64 a2_0, .int .i64 a2_1, .string a2_2] 35)).cell? ⟨w.heap.size + 1 + 1, 1, none⟩ = some (.int .i64 a2_1) := by simp [go_sem]
  have k2_2 : (((w.alloc (.cells #[.int .i64 a0_0, .int .i64 a0_1, .int .i64 a0_2] 106)).alloc (.cells #[.int .i64 a1_0, .int .i64 a1_1, .bool a1_2] 63)).alloc (.cells #[.int .i64 a2_0, .int .i64 a2_1, .string a2_2] 35)).cell? ⟨w.heap.size + 1 + 1, 2, none⟩ = some (.string a2_2) := by simp [go_sem]
  have lt0 : w.heap.size < (((w.alloc (.cells #[.int .i64 a0_0, .int .i64 a0_1, .int .i64 a0_2] 106)).alloc (.cells #[.int .i64 a1_0, .int .i64 a1_1, .bool a1_2] 63)).alloc (.cells #[.int .i64 a2_0, .int .i64 a2_1, .string a2_2] 35)).heap.size := by simp only [World.size_alloc]; omega
  have lt1 : w.heap.size + 1 < (((w.alloc (.cells #[.int .i64 a0_0, .int .i64 a0_1, .int .i64 a0_2] 106)).alloc (.cells #[.int .i64 a1_0, .int .i64 a1_1, .bool a1_2] 63)).alloc (.cells #[.int .i64 a2_0, .int .i64 a2_1, .string a2_2] 35)).heap.size := by simp only [World.size_alloc]; omega
  have lt2 : w.heap.size + 1 + 1 < (((w.alloc (.cells #[.int .i64 a0_0, .int .i64 a0_1, .int .i64 a0_2] 106)).alloc (.cells #[.int .i64 a1_0, .int .i64 a1_1, .bool a1_2] 63)).alloc (.cells #[.int .i64 a2_0, .int .i64 a2_1, .string a2_2] 35)).heap.size := by simp only [World.size_alloc]; omega
  generalize ((w.alloc (.cells #[.int .i64 a0_0, .int .i64 a0_1, .int .i64 a0_2] 106)).alloc (.cells #[.int .i64 a1_0, .int .i64 a1_1, .bool a1_2] 63)).alloc (.cells #[.int .i64 a2_0, .int .i64 a2_1, .string a2_2] 35) = W at *
  clear lt0 lt1 lt2
  refine (value_Has.calls k _ _ _ _ _ _ false _ H1.out (HG.out.below hB.out)).mono ?_
  rintro e w1 ⟨rfl, hbn⟩
  replace k0_0 := pw_cell_below hbn k0_0
  replace k0_1 := pw_cell_below hbn k0_1
  replace k0_2 := pw_cell_below hbn k0_2
  replace k1_0 := pw_cell_below hbn k1_0
  replace k1_1 := pw_cell_below hbn k1_1
  replace k1_2 := pw_cell_below hbn k1_2
  replace k2_0 := pw_cell_below hbn k2_0
  replace k2_1 := pw_cell_below hbn k2_1
  replace k2_2 := pw_cell_below hbn k2_2
  replace hB := Lib.hid (below_then hB.out hB.out.size hbn)
  clear hbn
  go_wp2_with fail
  refine (value_Wide.calls k _ _ _ true _ H2.out).mono ?_
  rintro e w2 ⟨rfl, hbn⟩
  replace k0_0 := pw_cell_below hbn k0_0
  replace k0_1 := pw_cell_below hbn k0_1
  replace k0_2 := pw_cell_below hbn k0_2
  replace k1_0 := pw_cell_below hbn k1_0
  replace k1_1 := pw_cell_below hbn k1_1
  replace k1_2 := pw_cell_below hbn k1_2
  replace k2_0 := pw_cell_below hbn k2_0
  replace k2_1 := pw_cell_below hbn k2_1
  replace k2_2 := pw_cell_below hbn k2_2
  replace hB := Lib.hid (below_then hB.out hB.out.size hbn)
  clear hbn
  go_wp2_with fail
  refine (decimal_Fits.calls _ _ r _ H3.out (HG.out.below hB.out)).mono ?_
  rintro e w' ⟨rfl, ⟨nd, rfl⟩⟩
  go_wp2
  go_ret
  exact ⟨rfl, pw_below_drewN hB.out nd⟩
theorem partition_spec_isValue.calls (k : Nat) (a0_0 a0_1 a0_2 : Int) (a1_0 a1_1 : Int) (a1_2 : Bool) (a2_0 a2_1 : Int) (a2_2 : ByteArray) (r : Bool) (w : World) (h : partition_spec_isValue.f k a0_0 a0_1 a0_2 a1_0 a1_1 a1_2 a2_0 a2_1 a2_2 = some r) (hG : Laid w) :
    Calls Tryz.prog 77 #[.agg #[.int .i64 a0_0, .int .i64 a0_1, .int .i64 a0_2], .agg #[.int .i64 a1_0, .int .i64 a1_1, .bool a1_2], .agg #[.int .i64 a2_0, .int .i64 a2_1, .string a2_2]] w fun e w' => e = .returned (.bool r) ∧ Below w.heap.size w w' := by
  unfold partition_spec_isValue.f at h
  obtain ⟨b, hb, h⟩ := Option.bind_eq_some_iff.mp h
  cases b with
  | true =>
    rw [if_pos rfl] at h
    obtain rfl := Option.some.inj h
    exact partition_spec_isValue.yes k _ _ _ _ _ _ _ _ _ w hG (Lib.hid hb)
  | false =>
    rw [if_neg (by decide)] at h
    cases h1 : (a1_0 == 2) with
    | false =>
      rw [h1, if_neg (by decide)] at h
      obtain rfl := Option.some.inj h
      exact partition_spec_isValue.no1 k _ _ _ _ _ _ _ _ _ w hG (Lib.hid hb) h1
    | true =>
      rw [h1, if_pos rfl] at h
      cases h2 : (a2_0 == 2) with
      | false =>
        rw [h2, if_neg (by decide)] at h
        obtain rfl := Option.some.inj h
        exact partition_spec_isValue.no2 k _ _ _ _ _ _ _ _ _ w hG (Lib.hid hb) h1 h2
      | true =>
        rw [h2, if_pos rfl] at h
        obtain ⟨c, hc, h⟩ := Option.bind_eq_some_iff.mp h
        cases c with
        | false =>
          rw [if_neg (by decide)] at h
          obtain rfl := Option.some.inj h
          exact partition_spec_isValue.no3 k _ _ _ _ _ _ _ _ _ w hG (Lib.hid hb) h1 h2 (Lib.hid hc)
        | true =>
          rw [if_pos rfl] at h
          exact partition_spec_isValue.last k _ _ _ _ _ _ _ _ _ w hG (Lib.hid hb) h1 h2 (Lib.hid hc) r (Lib.hid h)
end Go.Proofs.YteflfnjljjianaaGreatDoor.Qx
namespace Go.Proofs.YteflfnjljjianaaGreatDoor.Qx
open Go.RowKit Go.Proofs.YteflfnjljjianaaGreatDoorW.PrintWords Go.Proofs.YteflfnjljjianaaGreatDoorW.PrintLast Go.Proofs.YteflfnjljjianaaGreatDoorW.PrintMore
attribute [local go_sem] max2_int min2_int max_two min_two
set_option linter.unusedVariables false
set_option linter.unusedSimpArgs false
attribute [local go_sem high] eqA35
def partition_spec_isBucket.f (a0_0 a0_1 a0_2 : Int) (a1_0 a1_1 : Int) (a1_2 : Bool) (a2_0 a2_1 : Int) (a2_2 : ByteArray) : Option Bool :=
  if (a2_0 == 2 && a2_2.toList.isEmpty) = true ∧ 0 ≤ a2_1 ∧ a2_1 < wrap64 (a0_2 * 1000000) then decimal_Fits.f a2_1 0 else some false
set_option maxRecDepth 100000 in
set_option maxHeartbeats 4000000 in
theorem partition_spec_isBucket.no1 (a0_0 a0_1 a0_2 : Int) (a1_0 a1_1 : Int) (a1_2 : Bool) (a2_0 a2_1 : Int) (a2_2 : ByteArray) (w : World) (hG : Laid w) (b0 : (a2_0 == 2 && a2_2.toList.isEmpty) = false) :
    Calls Tryz.prog 80 #[.agg #[.int .i64 a0_0, .int .i64 a0_1, .int .i64 a0_2], .agg #[.int .i64 a1_0, .int .i64 a1_1, .bool a1_2], .agg #[.int .i64 a2_0, .int .i64 a2_1, .string a2_2]] w fun e w' => e = .returned (.bool false) ∧ Below w.heap.size w w' := by
  have hu106 := Tryz.underlying106
  have hu63 := Tryz.underlying63
  have hu35 := Tryz.underlying35
  have HG := Lib.hid hG
  clear hG
  go_enter Tryz.func80, Tryz.ntmps80
  go_wp2
  have hB := Lib.hid ((((Below.refl _ w).alloc (Nat.le_refl _) (.cells #[.int .i64 a0_0, .int .i64 a0_1, .int .i64 a0_2] 106)).alloc (by simp only [World.size_alloc]; omega) (.cells #[.int .i64 a1_0, .int .i64 a1_1, .bool a1_2] 63)).alloc (by simp only [World.size_alloc]; omega) (.cells #[.int .i64 a2_0, .int .i64 a2_1, .string a2_2] 35))
  have k0_0 : (((w.alloc (.cells #[.int .i64 a0_0, .int .i64 a0_1, .int .i64 a0_2] 106)).alloc (.cells #[.int .i64 a1_0, .int .i64 a1_1, .bool a1_2] 63)).alloc (.cells #[.int .i64 a2_0, .int .i64 a2_1, .string a2_2] 35)).cell? ⟨w.heap.size, 0, none⟩ = some (.int .i64 a0_0) := by simp [go_sem]
  have k0_1 : (((w.alloc (.cells #[.int .i64 a0_0, .int .i64 a0_1, .int .i64 a0_2] 106)).alloc (.cells #[.int .i64 a1_0, .int .i64 a1_1, .bool a1_2] 63)).alloc (.cells #[.int .i64 a2_0, .int .i64 a2_1, .string a2_2] 35)).cell? ⟨w.heap.size, 1, none⟩ = some (.int .i64 a0_1) := by simp [go_sem]
  have k0_2 : (((w.alloc (.cells #[.int .i64 a0_0, .int .i64 a0_1, .int .i64 a0_2] 106)).alloc (.cells #[.int .i64 a1_0, .int .i64 a1_1, .bool a1_2] 63)).alloc (.cells #[.int .i64 a2_0, .int .i64 a2_1, .string a2_2] 35)).cell? ⟨w.heap.size, 2, none⟩ = some (.int .i64 a0_2) := by simp [go_sem]
  have k1_0 : (((w.alloc (.cells #[.int .i64 a0_0, .int .i64 a0_1, .int .i64 a0_2] 106)).alloc (.cells #[.int .i64 a1_0, .int .i64 a1_1, .bool a1_2] 63)).alloc (.cells #[.int .i64 a2_0, .int .i64 a2_1, .string a2_2] 35)).cell? ⟨w.heap.size + 1, 0, none⟩ = some (.int .i64 a1_0) := by simp [go_sem]
  have k1_1 : (((w.alloc (.cells #[.int .i64 a0_0, .int .i64 a0_1, .int .i64 a0_2] 106)).alloc (.cells #[.int .i64 a1_0, .int .i64 a1_1, .bool a1_2] 63)).alloc (.cells #[.int .i64 a2_0, .int .i64 a2_1, .string a2_2] 35)).cell? ⟨w.heap.size + 1, 1, none⟩ = some (.int .i64 a1_1) := by simp [go_sem]
  have k1_2 : (((w.alloc (.cells #[.int .i64 a0_0, .int .i64 a0_1, .int .i64 a0_2] 106)).alloc (.cells #[.int .i64 a1_0, .int .i64 a1_1, .bool a1_2] 63)).alloc (.cells #[.int .i64 a2_0, .int .i64 a2_1, .string a2_2] 35)).cell? ⟨w.heap.size + 1, 2, none⟩ = some (.bool a1_2) := by simp [go_sem]
  have k2_0 : (((w.alloc (.cells #[.int .i64 a0_0, .int .i64 a0_1, .int .i64 a0_2] 106)).alloc (.cells #[.int .i64 a1_0, .int .i64 a1_1, .bool a1_2] 63)).alloc (.cells #[.int .i64 a2_0, .int .i64 a2_1, .string a2_2] 35)).cell? ⟨w.heap.size + 1 + 1, 0, none⟩ = some (.int .i64 a2_0) := by simp [go_sem]
  have k2_1 : (((w.alloc (.cells #[.int .i64 a0_0, .int .i64 a0_1, .int .i64 a0_2] 106)).alloc (.cells #[.int .i64 a1_0, .int .i64 a1_1, .bool a1_2] 63)).alloc (.cells #[.int .i64 a2_0, .int .i64 a2_1, .string a2_2] 35)).cell? ⟨w.heap.size + 1 + 1, 1, none⟩ = some (.int .i64 a2_1) := by simp [go_sem]
  have k2_2 : (((w.alloc (.cells #[.int .i64 a0_0, .int .i64 a0_1, .int .i64 a0_2] 106)).alloc (.cells #[.int .i64 a1_0, .int .i64 a1_1, .bool a1_2] 63)).alloc (.cells #[.int .i64 a2_0, .int .i64 a2_1, .string a2_2] 35)).cell? ⟨w.heap.size + 1 + 1, 2, none⟩ = some (.string a2_2) := by simp [go_sem]
  have lt0 : w.heap.size < (((w.alloc (.cells #[.int .i64 a0_0, .int .i64 a0_1, .int .i64 a0_2] 106)).alloc (.cells #[.int .i64 a1_0, .int .i64 a1_1, .bool a1_2] 63)).alloc (.cells #[.int .i64 a2_0, .int .i64 a2_1, .string a2_2] 35)).heap.size := by simp only [World.size_alloc]; omega
  have lt1 : w.heap.size + 1 < (((w.alloc (.cells #[.int .i64 a0_0, .int .i64 a0_1, .int .i64 a0_2] 106)).alloc (.cells #[.int .i64 a1_0, .int .i64 a1_1, .bool a1_2] 63)).alloc (.cells #[.int .i64 a2_0, .int .i64 a2_1, .string a2_2] 35)).heap.size := by simp only [World.size_alloc]; omega
  have lt2 : w.heap.size + 1 + 1 < (((w.alloc (.cells #[.int .i64 a0_0, .int .i64 a0_1, .int .i64 a0_2] 106)).alloc (.cells #[.int .i64 a1_0, .int .i64 a1_1, .bool a1_2] 63)).alloc (.cells #[.int .i64 a2_0, .int .i64 a2_1, .string a2_2] 35)).heap.size := by simp only [World.size_alloc]; omega
  generalize ((w.alloc (.cells #[.int .i64 a0_0, .int .i64 a0_1, .int .i64 a0_2] 106)).alloc (.cells #[.int .i64 a1_0, .int .i64 a1_1, .bool a1_2] 63)).alloc (.cells #[.int .i64 a2_0, .int .i64 a2_1, .string a2_2] 35) = W at *
  clear lt0 lt1 lt2
  replace k0_0 := cell_regrown k0_0
  replace k0_1 := cell_regrown k0_1
  replace k0_2 := cell_regrown k0_2
  replace k1_0 := cell_regrown k1_0
  replace k1_1 := cell_regrown k1_1
  replace k1_2 := cell_regrown k1_2
  replace k2_0 := cell_regrown k2_0
  replace k2_1 := cell_regrown k2_1
  replace k2_2 := cell_regrown k2_2
  refine wp_region_quiet_below (by kernel_rfl) (by kernel_rfl) ?_
  repeat (first | go_big_quiet_step (first | exact Calls.regrown_of (partition_num.calls _ _ _ _ _ rfl)) | quiet_step (first | exact Calls.regrown_of (partition_num.calls _ _ _ _ _ rfl)))
  refine wpQuiet_nil ?_
  intro _ hw'
  obtain ⟨⟨dq, osq⟩, hw''⟩ := hw'
  subst hw''
  have hD := Lib.hid (below_regrown W dq osq)
  go_wp2
  go_ret
  exact ⟨rfl, below_then hB.out hB.out.size hD.out⟩
set_option maxRecDepth 100000 in
set_option maxHeartbeats 4000000 in
theorem partition_spec_isBucket.no2 (a0_0 a0_1 a0_2 : Int) (a1_0 a1_1 : Int) (a1_2 : Bool) (a2_0 a2_1 : Int) (a2_2 : ByteArray) (w : World) (hG : Laid w) (b0 : (a2_0 == 2 && a2_2.toList.isEmpty) = true) (b1 : decide (0 ≤ a2_1) = false) :
    Calls Tryz.prog 80 #[.agg #[.int .i64 a0_0, .int .i64 a0_1, .int .i64 a0_2], .agg #[.int .i64 a1_0, .int .i64 a1_1, .bool a1_2], .agg #[.int .i64 a2_0, .int .i64 a2_1, .string a2_2]] w fun e w' => e = .returned (.bool false) ∧ Below w.heap.size w w' := by
  have hu106 := Tryz.underlying106
  have hu63 := Tryz.underlying63
  have hu35 := Tryz.underlying35
  have HG := Lib.hid hG
  clear hG
  go_enter Tryz.func80, Tryz.ntmps80
  go_wp2
  have hB := Lib.hid ((((Below.refl _ w).alloc (Nat.le_refl _) (.cells #[.int .i64 a0_0, .int .i64 a0_1, .int .i64 a0_2] 106)).alloc (by simp only [World.size_alloc]; omega) (.cells #[.int .i64 a1_0, .int .i64 a1_1, .bool a1_2] 63)).alloc (by simp only [World.size_alloc]; omega) (.cells #[.int .i64 a2_0, .int .i64 a2_1, .string a2_2] 35))
  have k0_0 : (((w.alloc (.cells #[.int .i64 a0_0, .int .i64 a0_1, .int .i64 a0_2] 106)).alloc (.cells #[.int .i64 a1_0, .int .i64 a1_1, .bool a1_2] 63)).alloc (.cells #[.int .i64 a2_0, .int .i64 a2_1, .string a2_2] 35)).cell? ⟨w.heap.size, 0, none⟩ = some (.int .i64 a0_0) := by simp [go_sem]
  have k0_1 : (((w.alloc (.cells #[.int .i64 a0_0, .int .i64 a0_1, .int .i64 a0_2] 106)).alloc (.cells #[.int .i64 a1_0, .int .i64 a1_1, .bool a1_2] 63)).alloc (.cells #[.int .i64 a2_0, .int .i64 a2_1, .string a2_2] 35)).cell? ⟨w.heap.size, 1, none⟩ = some (.int .i64 a0_1) := by simp [go_sem]
  have k0_2 : (((w.alloc (.cells #[.int .i64 a0_0, .int .i64 a0_1, .int .i64 a0_2] 106)).alloc (.cells #[.int .i64 a1_0, .int .i64 a1_1, .bool a1_2] 63)).alloc (.cells #[.int .i64 a2_0, .int .i64 a2_1, .string a2_2] 35)).cell? ⟨w.heap.size, 2, none⟩ = some (.int .i64 a0_2) := by simp [go_sem]
  have k1_0 : (((w.alloc (.cells #[.int .i64 a0_0, .int .i64 a0_1, .int .i64 a0_2] 106)).alloc (.cells #[.int .i64 a1_0, .int .i64 a1_1, .bool a1_2] 63)).alloc (.cells #[.int .i64 a2_0, .int .i64 a2_1, .string a2_2] 35)).cell? ⟨w.heap.size + 1, 0, none⟩ = some (.int .i64 a1_0) := by simp [go_sem]
  have k1_1 : (((w.alloc (.cells #[.int .i64 a0_0, .int .i64 a0_1, .int .i64 a0_2] 106)).alloc (.cells #[.int .i64 a1_0, .int .i64 a1_1, .bool a1_2] 63)).alloc (.cells #[.int .i64 a2_0, .int .i64 a2_1, .string a2_2] 35)).cell? ⟨w.heap.size + 1, 1, none⟩ = some (.int .i64 a1_1) := by simp [go_sem]
  have k1_2 : (((w.alloc (.cells #[.int .i64 a0_0, .int .i64 a0_1, .int .i64 a0_2] 106)).alloc (.cells #[.int .i64 a1_0, .int .i64 a1_1, .bool a1_2] 63)).alloc (.cells #[.int .i64 a2_0, .int .i64 a2_1, .string a2_2] 35)).cell? ⟨w.heap.size + 1, 2, none⟩ = some (.bool a1_2) := by simp [go_sem]
  have k2_0 : (((w.alloc (.cells #[.int .i64 a0_0, .int .i64 a0_1, .int .i64 a0_2] 106)).alloc (.cells #[.int .i64 a1_0, .int .i64 a1_1, .bool a1_2] 63)).alloc (.cells #[.int .i64 a2_0, .int .i64 a2_1, .string a2_2] 35)).cell? ⟨w.heap.size + 1 + 1, 0, none⟩ = some (.int .i64 a2_0) := by simp [go_sem]
  have k2_1 : (((w.alloc (.cells #[.int .i64 a0_0, .int .i64 a0_1, .int .i64 a0_2] 106)).alloc (.cells #[.int .i64 a1_0, .int .i64 a1_1, .bool a1_2] 63)).alloc (.cells #[.int .i64 a2_0, .int .i64 a2_1, .string a2_2] 35)).cell? ⟨w.heap.size + 1 + 1, 1, none⟩ = some (.int .i64 a2_1) := by simp [go_sem]
  have k2_2 : (((w.alloc (.cells #[.int .i64 a0_0, .int .i64 a0_1, .int .i64 a0_2] 106)).alloc (.cells #[.int .i64 a1_0, .int .i64 a1_1, .bool a1_2] 63)).alloc (.cells #[.int .i64 a2_0, .int .i64 a2_1, .string a2_2] 35)).cell? ⟨w.heap.size + 1 + 1, 2, none⟩ = some (.string a2_2) := by simp [go_sem]
  have lt0 : w.heap.size < (((w.alloc (.cells #[.int .i64 a0_0, .int .i64 a0_1, .int .i64 a0_2] 106)).alloc (.cells #[.int .i64 a1_0, .int .i64 a1_1, .bool a1_2] 63)).alloc (.cells #[.int .i64 a2_0, .int .i64 a2_1, .string a2_2] 35)).heap.size := by simp only [World.size_alloc]; omega
  have lt1 : w.heap.size + 1 < (((w.alloc (.cells #[.int .i64 a0_0, .int .i64 a0_1, .int .i64 a0_2] 106)).alloc (.cells #[.int .i64 a1_0, .int .i64 a1_1, .bool a1_2] 63)).alloc (.cells #[.int .i64 a2_0, .int .i64 a2_1, .string a2_2] 35)).heap.size := by simp only [World.size_alloc]; omega
  have lt2 : w.heap.size + 1 + 1 < (((w.alloc (.cells #[.int .i64 a0_0, .int .i64 a0_1, .int .i64 a0_2] 106)).alloc (.cells #[.int .i64 a1_0, .int .i64 a1_1, .bool a1_2] 63)).alloc (.cells #[.int .i64 a2_0, .int .i64 a2_1, .string a2_2] 35)).heap.size := by simp only [World.size_alloc]; omega
  generalize ((w.alloc (.cells #[.int .i64 a0_0, .int .i64 a0_1, .int .i64 a0_2] 106)).alloc (.cells #[.int .i64 a1_0, .int .i64 a1_1, .bool a1_2] 63)).alloc (.cells #[.int .i64 a2_0, .int .i64 a2_1, .string a2_2] 35) = W at *
  clear lt0 lt1 lt2
  replace k0_0 := cell_regrown k0_0
  replace k0_1 := cell_regrown k0_1
  replace k0_2 := cell_regrown k0_2
  replace k1_0 := cell_regrown k1_0
  replace k1_1 := cell_regrown k1_1
  replace k1_2 := cell_regrown k1_2
  replace k2_0 := cell_regrown k2_0
  replace k2_1 := cell_regrown k2_1
  replace k2_2 := cell_regrown k2_2
  refine wp_region_quiet_below (by kernel_rfl) (by kernel_rfl) ?_
  repeat (first | go_big_quiet_step (first | exact Calls.regrown_of (partition_num.calls _ _ _ _ _ rfl)) | quiet_step (first | exact Calls.regrown_of (partition_num.calls _ _ _ _ _ rfl)))
  refine wpQuiet_nil ?_
  intro _ hw'
  obtain ⟨⟨dq, osq⟩, hw''⟩ := hw'
  subst hw''
  have hD := Lib.hid (below_regrown W dq osq)
  go_wp2
  go_ret
  exact ⟨rfl, below_then hB.out hB.out.size hD.out⟩
set_option maxRecDepth 100000 in
set_option maxHeartbeats 4000000 in
theorem partition_spec_isBucket.no3 (a0_0 a0_1 a0_2 : Int) (a1_0 a1_1 : Int) (a1_2 : Bool) (a2_0 a2_1 : Int) (a2_2 : ByteArray) (w : World) (hG : Laid w) (b0 : (a2_0 == 2 && a2_2.toList.isEmpty) = true) (b1 : decide (0 ≤ a2_1) = true) (b2 : decide (a2_1 < wrap64 (a0_2 * 1000000)) = false) :
    Calls Tryz.prog 80 #[.agg #[.int .i64 a0_0, .int .i64 a0_1, .int .i64 a0_2], .agg #[.int .i64 a1_0, .int .i64 a1_1, .bool a1_2], .agg #[.int .i64 a2_0, .int .i64 a2_1, .string a2_2]] w fun e w' => e = .returned (.bool false) ∧ Below w.heap.size w w' := by
  have hu106 := Tryz.underlying106
  have hu63 := Tryz.underlying63
  have hu35 := Tryz.underlying35
  have HG := Lib.hid hG
  clear hG
  go_enter Tryz.func80, Tryz.ntmps80
  go_wp2
  have hB := Lib.hid ((((Below.refl _ w).alloc (Nat.le_refl _) (.cells #[.int .i64 a0_0, .int .i64 a0_1, .int .i64 a0_2] 106)).alloc (by simp only [World.size_alloc]; omega) (.cells #[.int .i64 a1_0, .int .i64 a1_1, .bool a1_2] 63)).alloc (by simp only [World.size_alloc]; omega) (.cells #[.int .i64 a2_0, .int .i64 a2_1, .string a2_2] 35))
  have k0_0 : (((w.alloc (.cells #[.int .i64 a0_0, .int .i64 a0_1, .int .i64 a0_2] 106)).alloc (.cells #[.int .i64 a1_0, .int .i64 a1_1, .bool a1_2] 63)).alloc (.cells #[.int .i64 a2_0, .int .i64 a2_1, .string a2_2] 35)).cell? ⟨w.heap.size, 0, none⟩ = some (.int .i64 a0_0) := by simp [go_sem]
  have k0_1 : (((w.alloc (.cells #[.int .i64 a0_0, .int .i64 a0_1, .int .i64 a0_2] 106)).alloc (.cells #[.int .i64 a1_0, .int .i64 a1_1, .bool a1_2] 63)).alloc (.cells #[.int .i64 a2_0, .int .i64 a2_1, .string a2_2] 35)).cell? ⟨w.heap.size, 1, none⟩ = some (.int .i64 a0_1) := by simp [go_sem]
  have k0_2 : (((w.alloc (.cells #[.int .i64 a0_0, .int .i64 a0_1, .int .i64 a0_2] 106)).alloc (.cells #[.int .i64 a1_0, .int .i64 a1_1, .bool a1_2] 63)).alloc (.cells #[.int .i64 a2_0, .int .i64 a2_1, .string a2_2] 35)).cell? ⟨w.heap.size, 2, none⟩ = some (.int .i64 a0_2) := by simp [go_sem]
  have k1_0 : (((w.alloc (.cells #[.int .i64 a0_0, .int .i64 a0_1, .int .i64 a0_2] 106)).alloc (.cells #[.int .i64 a1_0, .int .i64 a1_1, .bool a1_2] 63)).alloc (.cells #[.int .i64 a2_0, .int .i64 a2_1, .string a2_2] 35)).cell? ⟨w.heap.size + 1, 0, none⟩ = some (.int .i64 a1_0) := by simp [go_sem]
  have k1_1 : (((w.alloc (.cells #[.int .i64 a0_0, .int .i64 a0_1, .int .i64 a0_2] 106)).alloc (.cells #[.int .i64 a1_0, .int .i64 a1_1, .bool a1_2] 63)).alloc (.cells #[.int .i64 a2_0, .int .i64 a2_1, .string a2_2] 35)).cell? ⟨w.heap.size + 1, 1, none⟩ = some (.int .i64 a1_1) := by simp [go_sem]
  have k1_2 : (((w.alloc (.cells #[.int .i64 a0_0, .int .i64 a0_1, .int .i64 a0_2] 106)).alloc (.cells #[.int .i64 a1_0, .int .i64 a1_1, .bool a1_2] 63)).alloc (.cells #[.int .i64 a2_0, .int .i64 a2_1, .string a2_2] 35)).cell? ⟨w.heap.size + 1, 2, none⟩ = some (.bool a1_2) := by simp [go_sem]
  have k2_0 : (((w.alloc (.cells #[.int .i64 a0_0, .int .i64 a0_1, .int .i64 a0_2] 106)).alloc (.cells #[.int .i64 a1_0, .int .i64 a1_1, .bool a1_2] 63)).alloc (.cells #[.int .i64 a2_0, .int .i64 a2_1, .string a2_2] 35)).cell? ⟨w.heap.size + 1 + 1, 0, none⟩ = some (.int .i64 a2_0) := by simp [go_sem]
  have k2_1 : (((w.alloc (.cells #[.int .i64 a0_0, .int .i64 a0_1, .int .i64 a0_2] 106)).alloc (.cells #[.int .i64 a1_0, .int .i64 a1_1, .bool a1_2] 63)).alloc (.cells #[.int .i64 a2_0, .int .i64 a2_1, .string a2_2] 35)).cell? ⟨w.heap.size + 1 + 1, 1, none⟩ = some (.int .i64 a2_1) := by simp [go_sem]
  have k2_2 : (((w.alloc (.cells #[.int .i64 a0_0, .int .i64 a0_1, .int .i64 a0_2] 106)).alloc (.cells #[.int .i64 a1_0, .int .i64 a1_1, .bool a1_2] 63)).alloc (.cells #[.int .i64 a2_0, .int .i64 a2_1, .string a2_2] 35)).cell? ⟨w.heap.size + 1 + 1, 2, none⟩ = some (.string a2_2) := by simp [go_sem]
  have lt0 : w.heap.size < (((w.alloc (.cells #[.int .i64 a0_0, .int .i64 a0_1, .int .i64 a0_2] 106)).alloc (.cells #[.int .i64 a1_0, .int .i64 a1_1, .bool a1_2] 63)).alloc (.cells #[.int .i64 a2_0, .int .i64 a2_1, .string a2_2] 35)).heap.size := by simp only [World.size_alloc]; omega
  have lt1 : w.heap.size + 1 < (((w.alloc (.cells #[.int .i64 a0_0, .int .i64 a0_1, .int .i64 a0_2] 106)).alloc (.cells #[.int .i64 a1_0, .int .i64 a1_1, .bool a1_2] 63)).alloc (.cells #[.int .i64 a2_0, .int .i64 a2_1, .string a2_2] 35)).heap.size := by simp only [World.size_alloc]; omega
  have lt2 : w.heap.size + 1 + 1 < (((w.alloc (.cells #[.int .i64 a0_0, .int .i64 a0_1, .int .i64 a0_2] 106)).alloc (.cells #[.int .i64 a1_0, .int .i64 a1_1, .bool a1_2] 63)).alloc (.cells #[.int .i64 a2_0, .int .i64 a2_1, .string a2_2] 35)).heap.size := by simp only [World.size_alloc]; omega
  generalize ((w.alloc (.cells #[.int .i64 a0_0, .int .i64 a0_1, .int .i64 a0_2] 106)).alloc (.cells #[.int .i64 a1_0, .int .i64 a1_1, .bool a1_2] 63)).alloc (.cells #[.int .i64 a2_0, .int .i64 a2_1, .string a2_2] 35) = W at *
  clear lt0 lt1 lt2
  replace k0_0 := cell_regrown k0_0
  replace k0_1 := cell_regrown k0_1
  replace k0_2 := cell_regrown k0_2
  replace k1_0 := cell_regrown k1_0
  replace k1_1 := cell_regrown k1_1
  replace k1_2 := cell_regrown k1_2
  replace k2_0 := cell_regrown k2_0
  replace k2_1 := cell_regrown k2_1
  replace k2_2 := cell_regrown k2_2
  refine wp_region_quiet_below (by kernel_rfl) (by kernel_rfl) ?_
  repeat (first | go_big_quiet_step (first | exact Calls.regrown_of (partition_num.calls _ _ _ _ _ rfl)) | quiet_step (first | exact Calls.regrown_of (partition_num.calls _ _ _ _ _ rfl)))
  refine wpQuiet_nil ?_
  intro _ hw'
  obtain ⟨⟨dq, osq⟩, hw''⟩ := hw'
  subst hw''
  have hD := Lib.hid (below_regrown W dq osq)
  go_wp2
  go_ret
  exact ⟨rfl, below_then hB.out hB.out.size hD.out⟩
set_option maxRecDepth 100000 in
set_option maxHeartbeats 4000000 in
theorem partition_spec_isBucket.last (a0_0 a0_1 a0_2 : Int) (a1_0 a1_1 : Int) (a1_2 : Bool) (a2_0 a2_1 : Int) (a2_2 : ByteArray) (w : World) (hG : Laid w) (b0 : (a2_0 == 2 && a2_2.toList.isEmpty) = true) (b1 : decide (0 ≤ a2_1) = true) (b2 : decide (a2_1 < wrap64 (a0_2 * 1000000)) = true) (r : Bool) (H3 : Hid (decimal_Fits.f a2_1 0 = some r)) :
    Calls Tryz.prog 80 #[.agg #[.int .i64 a0_0, .int .i64 a0_1, .int .i64 a0_2], .agg #[.int .i64 a1_0, .int .i64 a1_1, .bool a1_2], .agg #[.int .i64 a2_0, .int .i64 a2_1, .string a2_2]] w fun e w' => e = .returned (.bool r) ∧ Below w.heap.size w w' := by
  have hu106 := Tryz.underlying106
  have hu63 := Tryz.underlying63
  have hu35 := Tryz.underlying35
  have HG := Lib.hid hG
  clear hG
  go_enter Tryz.func80, Tryz.ntmps80
  go_wp2
  have hB := Lib.hid ((((Below.refl _ w).alloc (Nat.le_refl _) (.cells #[.int .i64 a0_0, .int .i64 a0_1, .int .i64 a0_2] 106)).alloc (by simp only [World.size_alloc]; omega) (.cells #[.int .i64 a1_0, .int .i64 a1_1, .bool a1_2] 63)).alloc (by simp only [World.size_alloc]; omega) (.cells #[.int .i64 a2_0, .int .i64 a2_1, .string a2_2] 35))
  have k0_0 : (((w.alloc (.cells #[.int .i64 a0_0, .int .i64 a0_1, .int .i64 a0_2] 106)).alloc (.cells #[.int .i64 a1_0, .int .i64 a1_1, .bool a1_2] 63)).alloc (.cells #[.int .i64 a2_0, .int .i64 a2_1, .string a2_2] 35)).cell? ⟨w.heap.size, 0, none⟩ = some (.int .i64 a0_0) := by simp [go_sem]
  have k0_1 : (((w.alloc (.cells #[.int .i64 a0_0, .int .i64 a0_1, .int .i64 a0_2] 106)).alloc (.cells #[.int .i64 a1_0, .int .i64 a1_1, .bool a1_2] 63)).alloc (.cells #[.int .i64 a2_0, .int .i64 a2_1, .string a2_2] 35)).cell? ⟨w.heap.size, 1, none⟩ = some (.int .i64 a0_1) := by simp [go_sem]
  have k0_2 : (((w.alloc (.cells #[.int .i64 a0_0, .int .i64 a0_1, .int .i64 a0_2] 106)).alloc (.cells #[.int .i64 a1_0, .int .i64 a1_1, .bool a1_2] 63)).alloc (.cells #[.int .i64 a2_0, .int .i64 a2_1, .string a2_2] 35)).cell? ⟨w.heap.size, 2, none⟩ = some (.int .i64 a0_2) := by simp [go_sem]
  have k1_0 : (((w.alloc (.cells #[.int .i64 a0_0, .int .i64 a0_1, .int .i64 a0_2] 106)).alloc (.cells #[.int .i64 a1_0, .int .i64 a1_1, .bool a1_2] 63)).alloc (.cells #[.int .i64 a2_0, .int .i64 a2_1, .string a2_2] 35)).cell? ⟨w.heap.size + 1, 0, none⟩ = some (.int .i64 a1_0) := by simp [go_sem]
  have k1_1 : (((w.alloc (.cells #[.int .i64 a0_0, .int .i64 a0_1, .int .i64 a0_2] 106)).alloc (.cells #[.int .i64 a1_0, .int .i64 a1_1, .bool a1_2] 63)).alloc (.cells #[.int .i64 a2_0, .int .i64 a2_1, .string a2_2] 35)).cell? ⟨w.heap.size + 1, 1, none⟩ = some (.int .i64 a1_1) := by simp [go_sem]
  have k1_2 : (((w.alloc (.cells #[.int .i64 a0_0, .int .i64 a0_1, .int .i64 a0_2] 106)).alloc (.cells #[.int .i64 a1_0, .int .i64 a1_1, .bool a1_2] 63)).alloc (.cells #[.int .i64 a2_0, .int .i64 a2_1, .string a2_2] 35)).cell? ⟨w.heap.size + 1, 2, none⟩ = some (.bool a1_2) := by simp [go_sem]
  have k2_0 : (((w.alloc (.cells #[.int .i64 a0_0, .int .i64 a0_1, .int .i64 a0_2] 106)).alloc (.cells #[.int .i64 a1_0, .int .i64 a1_1, .bool a1_2] 63)).alloc (.cells #[.int .i64 a2_0, .int .i64 a2_1, .string a2_2] 35)).cell? ⟨w.heap.size + 1 + 1, 0, none⟩ = some (.int .i64 a2_0) := by simp [go_sem]
  have k2_1 : (((w.alloc (.cells #[.int .i64 a0_0, .int .i64 a0_1, .int .i64 a0_2] 106)).alloc (.cells #[.int .i64 a1_0, .int .i64 a1_1, .bool a1_2] 63)).alloc (.cells #[.int .i64 a2_0, .int .i64 a2_1, .string a2_2] 35)).cell? ⟨w.heap.size + 1 + 1, 1, none⟩ = some (.int .i64 a2_1) := by simp [go_sem]
  have k2_2 : (((w.alloc (.cells #[.int .i64 a0_0, .int .i64 a0_1, .int .i64 a0_2] 106)).alloc (.cells #[.int .i64 a1_0, .int .i64 a1_1, .bool a1_2] 63)).alloc (.cells #[.int .i64 a2_0, .int .i64 a2_1, .string a2_2] 35)).cell? ⟨w.heap.size + 1 + 1, 2, none⟩ = some (.string a2_2) := by simp [go_sem]
  have lt0 : w.heap.size < (((w.alloc (.cells #[.int .i64 a0_0, .int .i64 a0_1, .int .i64 a0_2] 106)).alloc (.cells #[.int .i64 a1_0, .int .i64 a1_1, .bool a1_2] 63)).alloc (.cells #[.int .i64 a2_0, .int .i64 a2_1, .string a2_2] 35)).heap.size := by simp only [World.size_alloc]; omega
  have lt1 : w.heap.size + 1 < (((w.alloc (.cells #[.int .i64 a0_0, .int .i64 a0_1, .int .i64 a0_2] 106)).alloc (.cells #[.int .i64 a1_0, .int .i64 a1_1, .bool a1_2] 63)).alloc (.cells #[.int .i64 a2_0, .int .i64 a2_1, .string a2_2] 35)).heap.size := by simp only [World.size_alloc]; omega
  have lt2 : w.heap.size + 1 + 1 < (((w.alloc (.cells #[.int .i64 a0_0, .int .i64 a0_1, .int .i64 a0_2] 106)).alloc (.cells #[.int .i64 a1_0, .int .i64 a1_1, .bool a1_2] 63)).alloc (.cells #[.int .i64 a2_0, .int .i64 a2_1, .string a2_2] 35)).heap.size := by simp only [World.size_alloc]; omega
  generalize ((w.alloc (.cells #[.int .i64 a0_0, .int .i64 a0_1, .int .i64 a0_2] 106)).alloc (.cells #[.int .i64 a1_0, .int .i64 a1_1, .bool a1_2] 63)).alloc (.cells #[.int .i64 a2_0, .int .i64 a2_1, .string a2_2] 35) = W at *
  clear lt0 lt1 lt2
  replace k0_0 := cell_regrown k0_0
  replace k0_1 := cell_regrown k0_1
  replace k0_2 := cell_regrown k0_2
  replace k1_0 := cell_regrown k1_0
  replace k1_1 := cell_regrown k1_1
  replace k1_2 := cell_regrown k1_2
  replace k2_0 := cell_regrown k2_0
  replace k2_1 := cell_regrown k2_1
  replace k2_2 := cell_regrown k2_2
  refine wp_region_quiet_below (by kernel_rfl) (by kernel_rfl) ?_
  repeat (first | go_big_quiet_step (first | exact Calls.regrown_of (partition_num.calls _ _ _ _ _ rfl) | exact Calls.regrown_of ((decimal_Fits.calls _ _ r _ H3.out ((HG.out.below hB.out).below (below_regrown _ _ _))).mono fun _ _ h => ⟨h.1, h.2.below⟩)) | quiet_step (first | exact Calls.regrown_of (partition_num.calls _ _ _ _ _ rfl) | exact Calls.regrown_of ((decimal_Fits.calls _ _ r _ H3.out ((HG.out.below hB.out).below (below_regrown _ _ _))).mono fun _ _ h => ⟨h.1, h.2.below⟩)))
  refine wpQuiet_nil ?_
  intro _ hw'
  obtain ⟨⟨dq, osq⟩, hw''⟩ := hw'
  subst hw''
  have hD := Lib.hid (below_regrown W dq osq)
  go_wp2
  go_ret
  exact ⟨rfl, below_then hB.out hB.out.size hD.out⟩
theorem partition_spec_isBucket.calls (a0_0 a0_1 a0_2 : Int) (a1_0 a1_1 : Int) (a1_2 : Bool) (a2_0 a2_1 : Int) (a2_2 : ByteArray) (r : Bool) (w : World) (h : partition_spec_isBucket.f a0_0 a0_1 a0_2 a1_0 a1_1 a1_2 a2_0 a2_1 a2_2 = some r) (hG : Laid w) :
    Calls Tryz.prog 80 #[.agg #[.int .i64 a0_0, .int .i64 a0_1, .int .i64 a0_2], .agg #[.int .i64 a1_0, .int .i64 a1_1, .bool a1_2], .agg #[.int .i64 a2_0, .int .i64 a2_1, .string a2_2]] w fun e w' => e = .returned (.bool r) ∧ Below w.heap.size w w' := by
  unfold partition_spec_isBucket.f at h
  cases b0 : (a2_0 == 2 && a2_2.toList.isEmpty) with
  | false =>
    rw [b0, if_neg (fun z => by cases z.1)] at h
    obtain rfl := Option.some.inj h
    exact partition_spec_isBucket.no1 _ _ _ _ _ _ _ _ _ w hG b0
  | true =>
    by_cases h1 : 0 ≤ a2_1
    · by_cases h2 : a2_1 < wrap64 (a0_2 * 1000000)
      · rw [if_pos ⟨b0, h1, h2⟩] at h
        exact partition_spec_isBucket.last _ _ _ _ _ _ _ _ _ w hG b0 (decide_eq_true h1) (decide_eq_true h2) r (Lib.hid h)
      · rw [if_neg (fun z => h2 z.2.2)] at h
        obtain rfl := Option.some.inj h
        exact partition_spec_isBucket.no3 _ _ _ _ _ _ _ _ _ w hG b0 (decide_eq_true h1) (decide_eq_false h2)
    · rw [if_neg (fun z => h1 z.2.1)] at h
      obtain rfl := Option.some.inj h
      exact partition_spec_isBucket.no2 _ _ _ _ _ _ _ _ _ w hG b0 (decide_eq_false h1)
end Go.Proofs.YteflfnjljjianaaGreatDoor.Qx
namespace Go.Proofs.YteflfnjljjianaaGreatDoor.Qx
open Go.RowKit Go.Proofs.YteflfnjljjianaaGreatDoorW.PrintWords Go.Proofs.YteflfnjljjianaaGreatDoorW.PrintLast Go.Proofs.YteflfnjljjianaaGreatDoorW.PrintMore
attribute [local go_sem] max2_int min2_int max_two min_two
set_option linter.unusedVariables false
set_option linter.unusedSimpArgs false
def partition_spec_isTrunc.f (k : Nat) (a0_0 : Int) (a0_1 : Int) (a0_2 : Int) (a1_0 : Int) (a1_1 : Int) (a1_2 : Bool) (a2_0 : Int) (a2_1 : Int) (a2_2 : ByteArray) : Option (Bool) := (value_Wide.f k a2_0 a2_1 a2_2).bind fun t104 => (if t104 = true then (if a2_0 = a1_0 then ((partition_spec_trunc.f a0_0 a0_1 a0_2 a2_0 a2_1 a2_2).bind fun bt105 => (some (bt105.1 == a2_0 && (bt105.2.1 == a2_1 && (bt105.2.2.toList == a2_2.toList))))) else (some false)) else (some false))
attribute [local go_sem high] eqA35
set_option maxRecDepth 100000 in
set_option maxHeartbeats 4000000 in
theorem partition_spec_isTrunc.calls (k : Nat) (a0_0 : Int) (a0_1 : Int) (a0_2 : Int) (a1_0 : Int) (a1_1 : Int) (a1_2 : Bool) (a2_0 : Int) (a2_1 : Int) (a2_2 : ByteArray) (r : Bool) (w : World) (h : partition_spec_isTrunc.f k a0_0 a0_1 a0_2 a1_0 a1_1 a1_2 a2_0 a2_1 a2_2 = some r) :
    Calls Tryz.prog 83 #[.agg #[.int .i64 a0_0, .int .i64 a0_1, .int .i64 a0_2], .agg #[.int .i64 a1_0, .int .i64 a1_1, .bool a1_2], .agg #[.int .i64 a2_0, .int .i64 a2_1, .string a2_2]] w fun e w' => e = .returned (.bool r) ∧ Below w.heap.size w w' := by
  have hu106 := Tryz.underlying106
  have hu63 := Tryz.underlying63
  have hu35 := Tryz.underlying35
  obtain ⟨t, hw, h⟩ := Option.bind_eq_some_iff.1 h
  have HW := Lib.hid hw
  clear hw
  go_enter Tryz.func83, Tryz.ntmps83
  go_wp2
  have B0 := blk_alloc (blk_alloc (heap_alloc_new w (.cells #[.int .i64 a0_0, .int .i64 a0_1, .int .i64 a0_2] 106)) (.cells #[.int .i64 a1_0, .int .i64 a1_1, .bool a1_2] 63)) (.cells #[.int .i64 a2_0, .int .i64 a2_1, .string a2_2] 35)
  have B1 := blk_alloc (heap_alloc_new (w.alloc (.cells #[.int .i64 a0_0, .int .i64 a0_1, .int .i64 a0_2] 106)) (.cells #[.int .i64 a1_0, .int .i64 a1_1, .bool a1_2] 63)) (.cells #[.int .i64 a2_0, .int .i64 a2_1, .string a2_2] 35)
  have B2 := heap_alloc_new ((w.alloc (.cells #[.int .i64 a0_0, .int .i64 a0_1, .int .i64 a0_2] 106)).alloc (.cells #[.int .i64 a1_0, .int .i64 a1_1, .bool a1_2] 63)) (.cells #[.int .i64 a2_0, .int .i64 a2_1, .string a2_2] 35)
  have hB := below_alloc (below_alloc (below_alloc (Below.refl w.heap.size w) (.cells #[.int .i64 a0_0, .int .i64 a0_1, .int .i64 a0_2] 106)) (.cells #[.int .i64 a1_0, .int .i64 a1_1, .bool a1_2] 63)) (.cells #[.int .i64 a2_0, .int .i64 a2_1, .string a2_2] 35)
  simp only [World.size_alloc] at B1 B2
  generalize ((w.alloc (.cells #[.int .i64 a0_0, .int .i64 a0_1, .int .i64 a0_2] 106)).alloc (.cells #[.int .i64 a1_0, .int .i64 a1_1, .bool a1_2] 63)).alloc (.cells #[.int .i64 a2_0, .int .i64 a2_1, .string a2_2] 35) = W at *
  have k00 := cell_regrown ((blk_cell B0 0).trans rfl)
  have k01 := cell_regrown ((blk_cell B0 1).trans rfl)
  have k02 := cell_regrown ((blk_cell B0 2).trans rfl)
  have k10 := cell_regrown ((blk_cell B1 0).trans rfl)
  have k20 := cell_regrown ((blk_cell B2 0).trans rfl)
  have k21 := cell_regrown ((blk_cell B2 1).trans rfl)
  have k22 := cell_regrown ((blk_cell B2 2).trans rfl)
  have HB := Lib.hid hB
  clear B0 B1 B2 hB
  cases t with
  | false =>
    obtain rfl : false = r := by simpa using h
    clear h
    refine wp_region_quiet_below (by kernel_rfl) (by kernel_rfl) ?_
    repeat (first | go_big_quiet_skip | go_big_quiet_step (exact Calls.regrown_of (value_Wide.calls k _ _ _ false _ HW.out)) | quiet_step (exact Calls.regrown_of (value_Wide.calls k _ _ _ false _ HW.out)))
    refine wpQuiet_nil ?_
    intro _ hw'
    obtain ⟨⟨dq, osq⟩, hw''⟩ := hw'
    subst hw''
    go_wp2
    go_ret
    exact ⟨rfl, below_step HB.out (below_regrown W dq osq)⟩
  | true =>
    rw [if_pos rfl] at h
    by_cases hk : a2_0 = a1_0
    · rw [if_pos hk] at h
      obtain ⟨⟨q0, q1, q2⟩, hq, h⟩ := Option.bind_eq_some_iff.1 h
      have hke : (a2_0 == a1_0) = true := beq_iff_eq.2 hk
      have h' : (q0 == a2_0 && (q1 == a2_1 && (q2.toList == a2_2.toList))) = r := Option.some.inj h
      have HQ := Lib.hid hq
      have HE := Lib.hid h'
      clear h h' hq hk
      refine wp_region_quiet_below (by kernel_rfl) (by kernel_rfl) ?_
      repeat (first | go_big_quiet_skip | go_big_quiet_step (first | exact Calls.regrown_of (value_Wide.calls k _ _ _ true _ HW.out) | exact Calls.regrown_of (partition_spec_trunc.calls a0_0 a0_1 a0_2 a2_0 a2_1 a2_2 q0 q1 q2 _ HQ.out)) | quiet_step (first | exact Calls.regrown_of (value_Wide.calls k _ _ _ true _ HW.out) | exact Calls.regrown_of (partition_spec_trunc.calls a0_0 a0_1 a0_2 a2_0 a2_1 a2_2 q0 q1 q2 _ HQ.out)))
      refine wpQuiet_nil ?_
      intro _ hw'
      obtain ⟨⟨dq, osq⟩, hw''⟩ := hw'
      subst hw''
      go_wp2
      go_ret
      rw [← HE.out]
      exact ⟨by simp, below_step HB.out (below_regrown W dq osq)⟩
    · rw [if_neg hk] at h
      obtain rfl : false = r := by simpa using h
      have hke : (a2_0 == a1_0) = false := beq_eq_false_iff_ne.2 hk
      clear h hk
      refine wp_region_quiet_below (by kernel_rfl) (by kernel_rfl) ?_
      repeat (first | go_big_quiet_skip | go_big_quiet_step (exact Calls.regrown_of (value_Wide.calls k _ _ _ true _ HW.out)) | quiet_step (exact Calls.regrown_of (value_Wide.calls k _ _ _ true _ HW.out)))
      refine wpQuiet_nil ?_
      intro _ hw'
      obtain ⟨⟨dq, osq⟩, hw''⟩ := hw'
      subst hw''
      go_wp2
      go_ret
      exact ⟨rfl, below_step HB.out (below_regrown W dq osq)⟩
end Go.Proofs.YteflfnjljjianaaGreatDoor.Qx
namespace Go.Proofs.YteflfnjljjianaaGreatDoor.Qx
open Go.RowKit Go.Proofs.YteflfnjljjianaaGreatDoorW.PrintWords Go.Proofs.YteflfnjljjianaaGreatDoorW.PrintLast Go.Proofs.YteflfnjljjianaaGreatDoorW.PrintMore
attribute [local go_sem] max2_int min2_int max_two min_two
set_option linter.unusedVariables false
set_option linter.unusedSimpArgs false
attribute [local go_sem high] eqA35
def partition_Possible.f (k : Nat) (l0 : List S63) (a b n : Int) (p0 p1 : Int) (p2 : ByteArray) : Option Bool :=
  (partition_Valid.f l0 a b n).bind fun v => if v = true then (if a = 0 then some (p0 == 0 && (p1 == 0 && p2.toList.isEmpty)) else if (p0 == 0 && (p1 == 0 && p2.toList.isEmpty)) = true then some (rd_T63 l0 b).f2
    else if a = 1 then partition_spec_isValue.f k a b n (rd_T63 l0 b).f0 (rd_T63 l0 b).f1 (rd_T63 l0 b).f2 p0 p1 p2 else if a = 2 then partition_spec_isBucket.f a b n (rd_T63 l0 b).f0 (rd_T63 l0 b).f1 (rd_T63 l0 b).f2 p0 p1 p2
    else if a = 3 then partition_spec_isTrunc.f k a b n (rd_T63 l0 b).f0 (rd_T63 l0 b).f1 (rd_T63 l0 b).f2 p0 p1 p2 else none) else some false
theorem partition_Valid.attr {l0 : List S63} {a b n : Int} (h : partition_Valid.f l0 a b n = some true) (ha : a ≠ 0) : 0 < a ∧ a < 4 ∧ 0 ≤ b ∧ b < (l0.length : Int) := by
  unfold partition_Valid.f at h
  split at h
  · split at h
    · exact absurd h (by simp)
    · (try rw [if_neg ha] at h)
      split at h
      · assumption
      · exact absurd h (by simp)
  · exact absurd h (by simp)
set_option maxRecDepth 100000 in
set_option maxHeartbeats 4000000 in
theorem partition_Possible.calls (k : Nat) (A0 : Option Addr) (c0 : Nat) (l0 : List S63) (a b n : Int) (p0 p1 : Int) (p2 : ByteArray) (r : Bool) (w : World) (hr : Kd.C k63 w A0 l0.length l0) (hc : l0.length ≤ c0) (hG : Laid w) (h : partition_Possible.f k l0 a b n p0 p1 p2 = some r) :
    Calls Tryz.prog 24 #[.slice A0 l0.length c0, .agg #[.int .i64 a, .int .i64 b, .int .i64 n], .agg #[.int .i64 p0, .int .i64 p1, .string p2]] w fun e w' => e = .returned (.bool r) ∧ Below w.heap.size w w' := by
  obtain ⟨v, hv, h⟩ := Option.bind_eq_some_iff.1 h
  have hu27 := Tryz.underlying27
  have hu35 := Tryz.underlying35
  have hu63 := Tryz.underlying63
  have HV := Lib.hid hv
  have HR := Lib.hid hr
  have HG := Lib.hid hG
  have HH := Lib.hid h
  clear hv hr hG h
  go_enter Tryz.func24, Tryz.ntmps24
  go_wp2_with fail
  have B0 := blk_alloc (heap_alloc_new w (.cells #[.int .i64 a, .int .i64 b, .int .i64 n] 27)) (.cells #[.int .i64 p0, .int .i64 p1, .string p2] 35)
  have B1 := heap_alloc_new (w.alloc (.cells #[.int .i64 a, .int .i64 b, .int .i64 n] 27)) (.cells #[.int .i64 p0, .int .i64 p1, .string p2] 35)
  have hB := ((Below.refl w.heap.size w).alloc (Nat.le_refl _) (.cells #[.int .i64 a, .int .i64 b, .int .i64 n] 27)).alloc (by simp only [World.size_alloc]; omega) (.cells #[.int .i64 p0, .int .i64 p1, .string p2] 35)
  simp only [World.size_alloc] at B1
  generalize (w.alloc (.cells #[.int .i64 a, .int .i64 b, .int .i64 n] 27)).alloc (.cells #[.int .i64 p0, .int .i64 p1, .string p2] 35) = W at *
  refine (partition_Valid.calls A0 c0 l0 a b n v _ (Kd.C_below HR.out hB) hc HV.out).mono ?_
  rintro e w1 ⟨rfl, hb1⟩
  replace hB := below_then hB hB.size hb1
  have C0 := blk_below B0 hb1
  have C1 := blk_below B1 hb1
  have k0 : w1.cell? ⟨w.heap.size, 0, none⟩ = some (.int .i64 a) := (blk_cell C0 0).trans rfl
  have k1 : w1.cell? ⟨w.heap.size, 1, none⟩ = some (.int .i64 b) := (blk_cell C0 1).trans rfl
  have k2 : w1.cell? ⟨w.heap.size, 2, none⟩ = some (.int .i64 n) := (blk_cell C0 2).trans rfl
  have m0 : w1.cell? ⟨w.heap.size + 1, 0, none⟩ = some (.int .i64 p0) := (blk_cell C1 0).trans rfl
  have m1 : w1.cell? ⟨w.heap.size + 1, 1, none⟩ = some (.int .i64 p1) := (blk_cell C1 1).trans rfl
  have m2 : w1.cell? ⟨w.heap.size + 1, 2, none⟩ = some (.string p2) := (blk_cell C1 2).trans rfl
  have D0 := Lib.hid C0
  have D1 := Lib.hid C1
  have HB := Lib.hid hB
  clear B0 B1 hb1 hB C0 C1
  cases v with
  | false =>
    have h := HH.out
    rw [if_neg (by decide)] at h
    obtain rfl := Option.some.inj h
    clear h HH
    go_wp2
    go_ret
    exact ⟨rfl, HB.out⟩
  | true =>
    have h := HH.out
    rw [if_pos rfl] at h
    clear HH
    have HR1 := Lib.hid (Kd.C_below HR.out HB.out)
    have HG1 := Lib.hid (HG.out.below HB.out)
    have keepS : ∀ w' : World, w'.heap[w.heap.size]? = some (.cells #[.int .i64 a, .int .i64 b, .int .i64 n] 27 (0, 0)) → w'.heap[w.heap.size + 1]? = some (.cells #[.int .i64 p0, .int .i64 p1, .string p2] 35 (0, 0)) → (w'.cell? ⟨w.heap.size, 0, none⟩ = some (.int .i64 a) ∧ w'.cell? ⟨w.heap.size, 1, none⟩ = some (.int .i64 b) ∧ w'.cell? ⟨w.heap.size, 2, none⟩ = some (.int .i64 n) ∧ w'.cell? ⟨w.heap.size + 1, 0, none⟩ = some (.int .i64 p0) ∧ w'.cell? ⟨w.heap.size + 1, 1, none⟩ = some (.int .i64 p1) ∧ w'.cell? ⟨w.heap.size + 1, 2, none⟩ = some (.string p2)) := fun w' b0 b1 => ⟨(blk_cell b0 0).trans rfl, (blk_cell b0 1).trans rfl, (blk_cell b0 2).trans rfl, (blk_cell b1 0).trans rfl, (blk_cell b1 1).trans rfl, (blk_cell b1 2).trans rfl⟩
    have KS := Lib.hid keepS
    have E0 := Lib.hid (blk_drew D0.out)
    have E1 := Lib.hid (blk_drew D1.out)
    clear keepS
    by_cases ha : a = 0
    · subst ha
      rw [if_pos rfl] at h
      obtain rfl := Option.some.inj h
      clear h
      go_wp2
      go_region_held3 (fun w' => w'.cell? ⟨w.heap.size, 0, none⟩ = some (.int .i64 0) ∧ w'.cell? ⟨w.heap.size, 1, none⟩ = some (.int .i64 b) ∧ w'.cell? ⟨w.heap.size, 2, none⟩ = some (.int .i64 n) ∧ w'.cell? ⟨w.heap.size + 1, 0, none⟩ = some (.int .i64 p0) ∧ w'.cell? ⟨w.heap.size + 1, 1, none⟩ = some (.int .i64 p1) ∧ w'.cell? ⟨w.heap.size + 1, 2, none⟩ = some (.string p2)) (first
        | (with_reducible exact KS.out _ D0.out D1.out)
        | (with_reducible exact KS.out _ E0.out E1.out)
        | (with_reducible exact KS.out _ F0.out F1.out)) (first
        | (go_at_call 47
           refine (partition_null.calls 0 0 ⟨#[]⟩ _ rfl).mono ?_
           rintro e w2 ⟨rfl, hb2⟩
           have F0 := Lib.hid (blk_below E0.out hb2)
           have F1 := Lib.hid (blk_below E1.out hb2)))
      all_goals
        have hB2 := below_then (below_drew1 HB.out) HB.out.size hb2
        go_wp2
        go_ret
        exact ⟨rfl, hB2⟩
    · obtain ⟨g0, g1, g2, g3⟩ := partition_Valid.attr HV.out ha
      rw [if_neg ha] at h
      have d0 : (a == 0) = false := beq_false_of_ne ha
      have HA := Lib.hid ha
      clear ha
      generalize hnl : (p0 == 0 && (p1 == 0 && p2.toList.isEmpty)) = nl at *
      have HN := Lib.hid hnl
      have HH := Lib.hid h
      clear h hnl
      go_wp2
      go_region_held3 (fun w' => w'.cell? ⟨w.heap.size, 0, none⟩ = some (.int .i64 a) ∧ w'.cell? ⟨w.heap.size, 1, none⟩ = some (.int .i64 b) ∧ w'.cell? ⟨w.heap.size, 2, none⟩ = some (.int .i64 n) ∧ w'.cell? ⟨w.heap.size + 1, 0, none⟩ = some (.int .i64 p0) ∧ w'.cell? ⟨w.heap.size + 1, 1, none⟩ = some (.int .i64 p1) ∧ w'.cell? ⟨w.heap.size + 1, 2, none⟩ = some (.string p2)) (first
        | (with_reducible exact KS.out _ D0.out D1.out)
        | (with_reducible exact KS.out _ E0.out E1.out)
        | (with_reducible exact KS.out _ F0.out F1.out)) (first
        | (go_at_call 47
           refine (partition_null.calls 0 0 ⟨#[]⟩ _ rfl).mono ?_
           rintro e w2 ⟨rfl, hb2⟩
           have F0 := Lib.hid (blk_below E0.out hb2)
           have F1 := Lib.hid (blk_below E1.out hb2)))
      all_goals
        have hB2 := below_then (below_drew1 HB.out) HB.out.size hb2
        obtain ⟨ad, e0, t0, t1, t2⟩ := at_T63 (Kd.C_below HR1.out (Below.trans (below_drew1 (Below.refl _ _)) hb2)) b g2 g3
        subst e0
        rw [HN.out]
        have G0 := F0.out
        have G1 := F1.out
        have j0 : w2.cell? ⟨w.heap.size, 0, none⟩ = some (.int .i64 a) := (blk_cell G0 0).trans rfl
        have j1 : w2.cell? ⟨w.heap.size, 1, none⟩ = some (.int .i64 b) := (blk_cell G0 1).trans rfl
        have j2 : w2.cell? ⟨w.heap.size, 2, none⟩ = some (.int .i64 n) := (blk_cell G0 2).trans rfl
        have l0' : w2.cell? ⟨w.heap.size + 1, 0, none⟩ = some (.int .i64 p0) := (blk_cell G1 0).trans rfl
        have l1' : w2.cell? ⟨w.heap.size + 1, 1, none⟩ = some (.int .i64 p1) := (blk_cell G1 1).trans rfl
        have l2' : w2.cell? ⟨w.heap.size + 1, 2, none⟩ = some (.string p2) := (blk_cell G1 2).trans rfl
        have h := HH.out
        have HG2 := Lib.hid (HG.out.below hB2)
        clear G0 G1 F0 F1 E0 E1 D0 D1 KS k0 k1 k2 m0 m1 m2 HN HR1 HG1 HR HG HB hb2
        generalize hx : rd_T63 l0 b = x at *
        clear hx
        cases nl with
        | true =>
          rw [if_pos rfl] at h
          obtain rfl := Option.some.inj h
          clear h HH
          go_wp2
          go_ret
          exact ⟨rfl, hB2⟩
        | false =>
          rw [if_neg (by decide)] at h
          by_cases ha1 : a = 1
          · subst ha1
            rw [if_pos rfl] at h
            have HC := Lib.hid h
            clear h HH
            have i1 := partition_kinds.at1
            have i2 := partition_kinds.fld1_2
            go_wp2
            go_region_held3 (fun w' => w'.cell? ⟨w.heap.size, 0, none⟩ = some (.int .i64 1) ∧ w'.cell? ⟨w.heap.size, 1, none⟩ = some (.int .i64 b) ∧ w'.cell? ⟨w.heap.size, 2, none⟩ = some (.int .i64 n) ∧ w'.cell? ⟨w.heap.size + 1, 0, none⟩ = some (.int .i64 p0) ∧ w'.cell? ⟨w.heap.size + 1, 1, none⟩ = some (.int .i64 p1) ∧ w'.cell? ⟨w.heap.size + 1, 2, none⟩ = some (.string p2) ∧ w'.cell? (ad.add (b.toNat * 3)) = some (.int .i64 x.f0) ∧ w'.cell? ⟨(ad.add (b.toNat * 3)).block, (ad.add (b.toNat * 3)).off + 1, none⟩ = some (.int .i64 x.f1) ∧ w'.cell? ⟨(ad.add (b.toNat * 3)).block, (ad.add (b.toNat * 3)).off + 2, none⟩ = some (.bool x.f2)) (first
              | (refine ⟨?_, ?_, ?_, ?_, ?_, ?_, ?_, ?_, ?_⟩ <;> (go_split_ands; first | assumption | exact pw_cell_below hb3 (by assumption) | exact pw_cell_below hb4 (by assumption)))) (first
              | (go_at_call 44
                 refine (partition_kinds.tab _).mono ?_
                 rintro e w3 ⟨rfl, hb3⟩)
              | (go_at_call 77
                 refine (partition_spec_isValue.calls k 1 b n x.f0 x.f1 x.f2 p0 p1 p2 r _ HC.out (HG2.out.below (Below.trans (below_drew1 (Below.refl _ _)) hb3))).mono ?_
                 rintro e w4 ⟨rfl, hb4⟩))
            all_goals
              go_wp2
              go_ret
              exact ⟨rfl, below_then (below_then (below_drew1 hB2) hB2.size hb3) (Nat.le_trans hB2.size hb3.size) hb4⟩
          rw [if_neg ha1] at h
          by_cases ha2 : a = 2
          · subst ha2
            rw [if_pos rfl] at h
            have HC := Lib.hid h
            clear h HH
            have i1 := partition_kinds.at2
            have i2 := partition_kinds.fld2_2
            go_wp2
            go_region_held3 (fun w' => w'.cell? ⟨w.heap.size, 0, none⟩ = some (.int .i64 2) ∧ w'.cell? ⟨w.heap.size, 1, none⟩ = some (.int .i64 b) ∧ w'.cell? ⟨w.heap.size, 2, none⟩ = some (.int .i64 n) ∧ w'.cell? ⟨w.heap.size + 1, 0, none⟩ = some (.int .i64 p0) ∧ w'.cell? ⟨w.heap.size + 1, 1, none⟩ = some (.int .i64 p1) ∧ w'.cell? ⟨w.heap.size + 1, 2, none⟩ = some (.string p2) ∧ w'.cell? (ad.add (b.toNat * 3)) = some (.int .i64 x.f0) ∧ w'.cell? ⟨(ad.add (b.toNat * 3)).block, (ad.add (b.toNat * 3)).off + 1, none⟩ = some (.int .i64 x.f1) ∧ w'.cell? ⟨(ad.add (b.toNat * 3)).block, (ad.add (b.toNat * 3)).off + 2, none⟩ = some (.bool x.f2)) (first
              | (refine ⟨?_, ?_, ?_, ?_, ?_, ?_, ?_, ?_, ?_⟩ <;> (go_split_ands; first | assumption | exact pw_cell_below hb3 (by assumption) | exact pw_cell_below hb4 (by assumption)))) (first
              | (go_at_call 44
                 refine (partition_kinds.tab _).mono ?_
                 rintro e w3 ⟨rfl, hb3⟩)
              | (go_at_call 80
                 refine (partition_spec_isBucket.calls 2 b n x.f0 x.f1 x.f2 p0 p1 p2 r _ HC.out (HG2.out.below (Below.trans (below_drew1 (Below.refl _ _)) hb3))).mono ?_
                 rintro e w4 ⟨rfl, hb4⟩))
            all_goals
              go_wp2
              go_ret
              exact ⟨rfl, below_then (below_then (below_drew1 hB2) hB2.size hb3) (Nat.le_trans hB2.size hb3.size) hb4⟩
          rw [if_neg ha2] at h
          by_cases ha3 : a = 3
          · subst ha3
            rw [if_pos rfl] at h
            have HC := Lib.hid h
            clear h HH
            have i1 := partition_kinds.at3
            have i2 := partition_kinds.fld3_2
            go_wp2
            go_region_held3 (fun w' => w'.cell? ⟨w.heap.size, 0, none⟩ = some (.int .i64 3) ∧ w'.cell? ⟨w.heap.size, 1, none⟩ = some (.int .i64 b) ∧ w'.cell? ⟨w.heap.size, 2, none⟩ = some (.int .i64 n) ∧ w'.cell? ⟨w.heap.size + 1, 0, none⟩ = some (.int .i64 p0) ∧ w'.cell? ⟨w.heap.size + 1, 1, none⟩ = some (.int .i64 p1) ∧ w'.cell? ⟨w.heap.size + 1, 2, none⟩ = some (.string p2) ∧ w'.cell? (ad.add (b.toNat * 3)) = some (.int .i64 x.f0) ∧ w'.cell? ⟨(ad.add (b.toNat * 3)).block, (ad.add (b.toNat * 3)).off + 1, none⟩ = some (.int .i64 x.f1) ∧ w'.cell? ⟨(ad.add (b.toNat * 3)).block, (ad.add (b.toNat * 3)).off + 2, none⟩ = some (.bool x.f2)) (first
              | (refine ⟨?_, ?_, ?_, ?_, ?_, ?_, ?_, ?_, ?_⟩ <;> (go_split_ands; first | assumption | exact pw_cell_below hb3 (by assumption) | exact pw_cell_below hb4 (by assumption)))) (first
              | (go_at_call 44
                 refine (partition_kinds.tab _).mono ?_
                 rintro e w3 ⟨rfl, hb3⟩)
              | (go_at_call 83
                 refine (partition_spec_isTrunc.calls k 3 b n x.f0 x.f1 x.f2 p0 p1 p2 r _ HC.out).mono ?_
                 rintro e w4 ⟨rfl, hb4⟩))
            all_goals
              go_wp2
              go_ret
              exact ⟨rfl, below_then (below_then (below_drew1 hB2) hB2.size hb3) (Nat.le_trans hB2.size hb3.size) hb4⟩
          rw [if_neg ha3] at h
          exact absurd h (by simp)
end Go.Proofs.YteflfnjljjianaaGreatDoor.Qx
namespace Go.Proofs.YteflfnjljjianaaGreatDoor.Qx
open Go.RowKit Go.Proofs.YteflfnjljjianaaGreatDoorW.PrintWords Go.Proofs.YteflfnjljjianaaGreatDoorW.PrintLast Go.Proofs.YteflfnjljjianaaGreatDoorW.PrintMore
attribute [local go_sem] max2_int min2_int max_two min_two
set_option linter.unusedVariables false
set_option linter.unusedSimpArgs false
def strings_Repeat.f (a0 : ByteArray) (a1 : Int) : Option ByteArray := if 0 ≤ a1 ∧ a1 ≤ 9223372036854775807 ∧ a0.size * a1.toNat ≤ 140737488355328 then some ⟨(Lib.repeatL a0.data.toList a1.toNat).toArray⟩ else none
theorem strings_Repeat.calls (a0 : ByteArray) (a1 : Int) (r : ByteArray) (w : World) (h : strings_Repeat.f a0 a1 = some r) :
    Calls Tryz.prog 116 #[.string a0, .int .i64 a1] w fun e w' => e = .returned (.string r) ∧ Below w.heap.size w w' := by
  unfold strings_Repeat.f at h
  by_cases c : 0 ≤ a1 ∧ a1 ≤ 9223372036854775807 ∧ a0.size * a1.toNat ≤ 140737488355328
  · rw [if_pos c] at h
    obtain rfl := Option.some.inj h
    obtain ⟨c0, c1, c2⟩ := c
    obtain ⟨n, rfl⟩ := Int.eq_ofNat_of_zero_le c0
    simp only [Int.toNat_natCast] at c2 ⊢
    exact Tryz.strings_Repeat a0 n w (by omega) c2
  · rw [if_neg c] at h
    exact absurd h (by simp)
end Go.Proofs.YteflfnjljjianaaGreatDoor.Qx
namespace Go.Proofs.YteflfnjljjianaaGreatDoor.Qx
open Go.RowKit Go.Proofs.YteflfnjljjianaaGreatDoorW.PrintWords Go.Proofs.YteflfnjljjianaaGreatDoorW.PrintLast Go.Proofs.YteflfnjljjianaaGreatDoorW.PrintMore
attribute [local go_sem] max2_int min2_int max_two min_two
set_option linter.unusedVariables false
set_option linter.unusedSimpArgs false
def partition_spec_most.f (a0_0 : Int) (a0_1 : Int) (a0_2 : Int) (a1_0 : Int) (a1_1 : Int) (a1_2 : ByteArray) : Option (Int × Int × ByteArray) := if a1_0 = 2 then ((partition_spec_floor.f a0_0 a0_1 a0_2 a1_1).bind fun t104 => ((partition_num.f (mn (wrap64 ((wrap64 (t104 + a0_2)) - 1)) 4000000000000000000)).bind fun bt105 => (some (bt105.1, bt105.2.1, bt105.2.2)))) else (if (a1_2.size : Int) < a0_2 then (some (a1_0, a1_1, a1_2)) else ((strings_Repeat.f (⟨#[126]⟩ : ByteArray) (wrap64 (40 - (a1_2.size : Int)))).bind fun t108 => (if a1_2.size + t108.size ≤ 9223372036854775807 then ((partition_str.f (a1_2 ++ t108)).bind fun bt109 => (some (bt109.1, bt109.2.1, bt109.2.2))) else (none))))
set_option maxRecDepth 100000 in
set_option maxHeartbeats 4000000 in
theorem partition_spec_most.calls (a0_0 : Int) (a0_1 : Int) (a0_2 : Int) (a1_0 : Int) (a1_1 : Int) (a1_2 : ByteArray) (r1 : Int) (r2 : Int) (r3 : ByteArray) (w : World) (h : partition_spec_most.f a0_0 a0_1 a0_2 a1_0 a1_1 a1_2 = some (r1, r2, r3)) :
    Calls Tryz.prog 84 #[.agg #[.int .i64 a0_0, .int .i64 a0_1, .int .i64 a0_2], .agg #[.int .i64 a1_0, .int .i64 a1_1, .string a1_2]] w fun e w' => e = .returned (.agg #[.int .i64 r1, .int .i64 r2, .string r3]) ∧ Below w.heap.size w w' := by
  have hu106 := Tryz.underlying106
  have hu35 := Tryz.underlying35
  unfold partition_spec_most.f at h
  by_cases c1 : a1_0 = 2
  · rw [if_pos c1] at h
    obtain ⟨t, ht, h⟩ := Option.bind_eq_some_iff.1 h
    obtain ⟨rfl, rfl, rfl⟩ : 2 = r1 ∧ mn (wrap64 (wrap64 (t + a0_2) - 1)) 4000000000000000000 = r2 ∧ (⟨#[]⟩ : ByteArray) = r3 := by
      have h := Option.some.inj h
      exact ⟨congrArg (·.1) h, congrArg (·.2.1) h, congrArg (·.2.2) h⟩
    have k1 : (a1_0 == 2) = true := beq_iff_eq.2 c1
    have HT := Lib.hid ht
    clear h ht c1
    have hmn : (wrap64 (wrap64 (t + a0_2) - 1) ≤ 4000000000000000000 ∧ mn (wrap64 (wrap64 (t + a0_2) - 1)) 4000000000000000000 = wrap64 (wrap64 (t + a0_2) - 1)) ∨ (4000000000000000000 < wrap64 (wrap64 (t + a0_2) - 1) ∧ mn (wrap64 (wrap64 (t + a0_2) - 1)) 4000000000000000000 = 4000000000000000000) := by
      by_cases hx : 4000000000000000000 < wrap64 (wrap64 (t + a0_2) - 1)
      · exact .inr ⟨hx, by unfold mn; omega⟩
      · exact .inl ⟨by omega, by unfold mn; omega⟩
    rcases hmn with ⟨hm, hmn⟩ | ⟨hm, hmn⟩
    all_goals
      rw [hmn]
      clear hmn
      go_enter Tryz.func84, Tryz.ntmps84
      go_wp2_with fail
      have E0 := blk_alloc (blk_alloc (heap_alloc_new w (.cells #[.int .i64 a0_0, .int .i64 a0_1, .int .i64 a0_2] 106)) (.cells #[.int .i64 a1_0, .int .i64 a1_1, .string a1_2] 35)) (.cells #[.int .i64 0, .int .i64 0, .string ⟨#[]⟩] 35)
      have E1 := blk_alloc (heap_alloc_new (w.alloc (.cells #[.int .i64 a0_0, .int .i64 a0_1, .int .i64 a0_2] 106)) (.cells #[.int .i64 a1_0, .int .i64 a1_1, .string a1_2] 35)) (.cells #[.int .i64 0, .int .i64 0, .string ⟨#[]⟩] 35)
      have E2 := heap_alloc_new ((w.alloc (.cells #[.int .i64 a0_0, .int .i64 a0_1, .int .i64 a0_2] 106)).alloc (.cells #[.int .i64 a1_0, .int .i64 a1_1, .string a1_2] 35)) (.cells #[.int .i64 0, .int .i64 0, .string ⟨#[]⟩] 35)
      have hB := below_alloc (below_alloc (below_alloc (Below.refl w.heap.size w) (.cells #[.int .i64 a0_0, .int .i64 a0_1, .int .i64 a0_2] 106)) (.cells #[.int .i64 a1_0, .int .i64 a1_1, .string a1_2] 35)) (.cells #[.int .i64 0, .int .i64 0, .string ⟨#[]⟩] 35)
      simp only [World.size_alloc] at E1 E2
      generalize ((w.alloc (.cells #[.int .i64 a0_0, .int .i64 a0_1, .int .i64 a0_2] 106)).alloc (.cells #[.int .i64 a1_0, .int .i64 a1_1, .string a1_2] 35)).alloc (.cells #[.int .i64 0, .int .i64 0, .string ⟨#[]⟩] 35) = W at *
      have k00 := cell_regrown ((blk_cell E0 0).trans rfl)
      have k01 := cell_regrown ((blk_cell E0 1).trans rfl)
      have k02 := cell_regrown ((blk_cell E0 2).trans rfl)
      have k10 := cell_regrown ((blk_cell E1 0).trans rfl)
      have k11 := cell_regrown ((blk_cell E1 1).trans rfl)
      have k12 := cell_regrown ((blk_cell E1 2).trans rfl)
      have HB := Lib.hid hB
      have H2 := Lib.hid E2
      clear E0 E1 E2 hB
      refine wp_region_quiet_tail_below 10 (by kernel_rfl) (by kernel_rfl) ?_
      simp only [List.take_succ_cons, List.take_zero, List.drop_succ_cons, List.drop_zero]
      repeat (first | go_big_quiet_step (first | exact Calls.regrown_of (partition_spec_floor.calls a0_0 a0_1 a0_2 a1_1 t _ HT.out) | exact Calls.regrown_of (partition_num.calls _ _ _ _ _ rfl)) | quiet_step (first | exact Calls.regrown_of (partition_spec_floor.calls a0_0 a0_1 a0_2 a1_1 t _ HT.out) | exact Calls.regrown_of (partition_num.calls _ _ _ _ _ rfl)))
      refine wpQuiet_nil ?_
      intro _ hw'
      obtain ⟨⟨dq, osq⟩, hw''⟩ := hw'
      subst hw''
      have hb2 := below_regrown W dq osq
      have E2 := blk_below H2.out hb2
      replace HB := Lib.hid (below_step HB.out hb2)
      clear H2 hb2 k00 k01 k02 k10 k11 k12
      generalize Go.Sort.grow (redrawn W dq) osq = W2 at *
      have z0 : W2.cell? ⟨w.heap.size + 1 + 1, 0, none⟩ = some (.int .i64 0) := (blk_cell E2 0).trans rfl
      have z1 : W2.cell? ⟨w.heap.size + 1 + 1, 1, none⟩ = some (.int .i64 0) := (blk_cell E2 1).trans rfl
      have z2 : W2.cell? ⟨w.heap.size + 1 + 1, 2, none⟩ = some (.string ⟨#[]⟩) := (blk_cell E2 2).trans rfl
      have f0 := blk_frozen E2 0
      have f1 := blk_frozen E2 1
      have f2 := blk_frozen E2 2
      have H2 := Lib.hid E2
      clear E2
      go_wp2
      refine bodyPost_ret (results_cell_row rfl _ _ (w.heap.size + 1 + 1) 35 #[.int .i64 2, .int .i64 _, .string ⟨#[]⟩] (0, 0) _ rfl (by refine blk_put (blk_put (blk_put H2.out 0 _ rfl) 1 _ rfl) 2 _ rfl) hu35 rfl (by kernel_rfl)) rfl ⟨rfl, ?_⟩
      exact below_set (below_set (below_set HB.out (by show w.heap.size ≤ w.heap.size + 1 + 1; omega)) (by show w.heap.size ≤ w.heap.size + 1 + 1; omega)) (by show w.heap.size ≤ w.heap.size + 1 + 1; omega)
  · rw [if_neg c1] at h
    have k1 : (a1_0 == 2) = false := beq_eq_false_iff_ne.2 c1
    clear c1
    by_cases c2 : (a1_2.size : Int) < a0_2
    · rw [if_pos c2] at h
      obtain ⟨rfl, rfl, rfl⟩ : a1_0 = r1 ∧ a1_1 = r2 ∧ a1_2 = r3 := by
        have h := Option.some.inj h
        exact ⟨congrArg (·.1) h, congrArg (·.2.1) h, congrArg (·.2.2) h⟩
      have k2 : decide ((a1_2.size : Int) < a0_2) = true := decide_eq_true c2
      clear h c2
      go_enter Tryz.func84, Tryz.ntmps84
      go_wp2
      have E2 := heap_alloc_new ((w.alloc (.cells #[.int .i64 a0_0, .int .i64 a0_1, .int .i64 a0_2] 106)).alloc (.cells #[.int .i64 a1_0, .int .i64 a1_1, .string a1_2] 35)) (.cells #[.int .i64 a1_0, .int .i64 a1_1, .string a1_2] 35)
      simp only [World.size_alloc] at E2
      exact bodyPost_ret (results_cell_row rfl _ _ (w.heap.size + 1 + 1) 35 #[.int .i64 a1_0, .int .i64 a1_1, .string a1_2] (0, 0) _ rfl E2 hu35 rfl (by kernel_rfl)) rfl ⟨rfl, below_alloc (below_alloc (below_alloc (Below.refl _ _) _) _) _⟩
    rw [if_neg c2] at h
    have k2 : decide ((a1_2.size : Int) < a0_2) = false := decide_eq_false c2
    clear c2
    obtain ⟨t, ht, h⟩ := Option.bind_eq_some_iff.1 h
    by_cases c3 : a1_2.size + t.size ≤ 9223372036854775807
    case neg => rw [if_neg c3] at h; cases h
    rw [if_pos c3] at h
    obtain ⟨rfl, rfl, rfl⟩ : 3 = r1 ∧ 0 = r2 ∧ a1_2 ++ t = r3 := by
      have h := Option.some.inj h
      exact ⟨congrArg (·.1) h, congrArg (·.2.1) h, congrArg (·.2.2) h⟩
    have ew : wrap64 (40 - (a1_2.size : Int)) = 40 - (a1_2.size : Int) := by unfold wrap64; omega
    rw [ew] at ht
    have HT := Lib.hid ht
    clear h ht ew
    go_enter Tryz.func84, Tryz.ntmps84
    go_wp2_with fail
    have E0 := blk_alloc (blk_alloc (heap_alloc_new w (.cells #[.int .i64 a0_0, .int .i64 a0_1, .int .i64 a0_2] 106)) (.cells #[.int .i64 a1_0, .int .i64 a1_1, .string a1_2] 35)) (.cells #[.int .i64 0, .int .i64 0, .string ⟨#[]⟩] 35)
    have E1 := blk_alloc (heap_alloc_new (w.alloc (.cells #[.int .i64 a0_0, .int .i64 a0_1, .int .i64 a0_2] 106)) (.cells #[.int .i64 a1_0, .int .i64 a1_1, .string a1_2] 35)) (.cells #[.int .i64 0, .int .i64 0, .string ⟨#[]⟩] 35)
    have E2 := heap_alloc_new ((w.alloc (.cells #[.int .i64 a0_0, .int .i64 a0_1, .int .i64 a0_2] 106)).alloc (.cells #[.int .i64 a1_0, .int .i64 a1_1, .string a1_2] 35)) (.cells #[.int .i64 0, .int .i64 0, .string ⟨#[]⟩] 35)
    have hB := below_alloc (below_alloc (below_alloc (Below.refl w.heap.size w) (.cells #[.int .i64 a0_0, .int .i64 a0_1, .int .i64 a0_2] 106)) (.cells #[.int .i64 a1_0, .int .i64 a1_1, .string a1_2] 35)) (.cells #[.int .i64 0, .int .i64 0, .string ⟨#[]⟩] 35)
    simp only [World.size_alloc] at E1 E2
    generalize ((w.alloc (.cells #[.int .i64 a0_0, .int .i64 a0_1, .int .i64 a0_2] 106)).alloc (.cells #[.int .i64 a1_0, .int .i64 a1_1, .string a1_2] 35)).alloc (.cells #[.int .i64 0, .int .i64 0, .string ⟨#[]⟩] 35) = W at *
    have k00 := cell_regrown ((blk_cell E0 0).trans rfl)
    have k01 := cell_regrown ((blk_cell E0 1).trans rfl)
    have k02 := cell_regrown ((blk_cell E0 2).trans rfl)
    have k10 := cell_regrown ((blk_cell E1 0).trans rfl)
    have k11 := cell_regrown ((blk_cell E1 1).trans rfl)
    have k12 := cell_regrown ((blk_cell E1 2).trans rfl)
    have HB := Lib.hid hB
    have H2 := Lib.hid E2
    clear E0 E1 E2 hB
    refine wp_region_quiet_tail_below 9 (by kernel_rfl) (by kernel_rfl) ?_
    simp only [List.take_succ_cons, List.take_zero, List.drop_succ_cons, List.drop_zero]
    repeat (first | go_big_quiet_step (first | exact Calls.regrown_of (strings_Repeat.calls ⟨#[126]⟩ _ t _ HT.out) | exact Calls.regrown_of (partition_str.calls _ _ _ _ _ rfl)) | quiet_step (first | exact Calls.regrown_of (strings_Repeat.calls ⟨#[126]⟩ _ t _ HT.out) | exact Calls.regrown_of (partition_str.calls _ _ _ _ _ rfl)))
    refine wpQuiet_nil ?_
    intro _ hw'
    obtain ⟨⟨dq, osq⟩, hw''⟩ := hw'
    subst hw''
    have hb2 := below_regrown W dq osq
    have E2 := blk_below H2.out hb2
    replace HB := Lib.hid (below_step HB.out hb2)
    clear H2 hb2 k00 k01 k02 k10 k11 k12
    generalize Go.Sort.grow (redrawn W dq) osq = W2 at *
    have z0 : W2.cell? ⟨w.heap.size + 1 + 1, 0, none⟩ = some (.int .i64 0) := (blk_cell E2 0).trans rfl
    have z1 : W2.cell? ⟨w.heap.size + 1 + 1, 1, none⟩ = some (.int .i64 0) := (blk_cell E2 1).trans rfl
    have z2 : W2.cell? ⟨w.heap.size + 1 + 1, 2, none⟩ = some (.string ⟨#[]⟩) := (blk_cell E2 2).trans rfl
    have f0 := blk_frozen E2 0
    have f1 := blk_frozen E2 1
    have f2 := blk_frozen E2 2
    have H2 := Lib.hid E2
    clear E2
    go_wp2
    refine bodyPost_ret (results_cell_row rfl _ _ (w.heap.size + 1 + 1) 35 #[.int .i64 3, .int .i64 0, .string (a1_2 ++ t)] (0, 0) _ rfl (by refine blk_put (blk_put (blk_put H2.out 0 _ rfl) 1 _ rfl) 2 _ rfl) hu35 rfl (by kernel_rfl)) rfl ⟨rfl, ?_⟩
    exact below_set (below_set (below_set HB.out (by show w.heap.size ≤ w.heap.size + 1 + 1; omega)) (by show w.heap.size ≤ w.heap.size + 1 + 1; omega)) (by show w.heap.size ≤ w.heap.size + 1 + 1; omega)
end Go.Proofs.YteflfnjljjianaaGreatDoor.Qx
namespace Go.Proofs.YteflfnjljjianaaGreatDoor.Qx
open Go.RowKit Go.Proofs.YteflfnjljjianaaGreatDoorW.PrintWords Go.Proofs.YteflfnjljjianaaGreatDoorW.PrintLast Go.Proofs.YteflfnjljjianaaGreatDoorW.PrintMore
attribute [local go_sem] max2_int min2_int max_two min_two
set_option linter.unusedVariables false
set_option linter.unusedSimpArgs false
def partition_open.j0 : Nat → Int → Int → Bool → Int → Bool → Int → Int → ByteArray → Int → Int → ByteArray → Int → Option (Int × Bool × Int × Int × ByteArray × Int × Int × ByteArray × Int)
  | 0, _, _, _, _, _, _, _, _, _, _, _, _ => none
  | k + 1, x102000, x102001, x102002, x104000, x104001, x104002, x104003, x104004, x104005, x104006, x104007, x104008 => if x102000 = 1 then (some (x104000, x104001, 1, 0, (⟨#[]⟩ : ByteArray), 1, 1, (⟨#[]⟩ : ByteArray), x104008)) else (if x102000 = 2 then ((partition_num.f (-4000000000000000000)).bind fun bt104 => ((partition_num.f 4000000000000000000).bind fun bt107 => (some (x104000, x104001, bt104.1, bt104.2.1, bt104.2.2, bt107.1, bt107.2.1, bt107.2.2, x104008)))) else ((partition_str.f (⟨#[]⟩ : ByteArray)).bind fun bt110 => ((strings_Repeat.f (⟨#[126]⟩ : ByteArray) 40).bind fun t113 => ((partition_str.f t113).bind fun bt114 => (some (x104000, x104001, bt110.1, bt110.2.1, bt110.2.2, bt114.1, bt114.2.1, bt114.2.2, x104008))))))
def partition_open.f (k : Nat) (a0_0 : Int) (a0_1 : Int) (a0_2 : Bool) : Option (Int × Bool × Int × Int × ByteArray × Int × Int × ByteArray × Int) := if a0_2 = true then (partition_open.j0 k a0_0 a0_1 a0_2 1 true 0 0 (⟨#[]⟩ : ByteArray) 0 0 (⟨#[]⟩ : ByteArray) 0) else (partition_open.j0 k a0_0 a0_1 a0_2 0 true 0 0 (⟨#[]⟩ : ByteArray) 0 0 (⟨#[]⟩ : ByteArray) 0)
set_option maxRecDepth 100000 in
set_option maxHeartbeats 4000000 in
theorem partition_open.calls (k : Nat) (a0_0 : Int) (a0_1 : Int) (a0_2 : Bool) (r1 : Int) (r2 : Bool) (r3 : Int) (r4 : Int) (r5 : ByteArray) (r6 : Int) (r7 : Int) (r8 : ByteArray) (r9 : Int) (w : World) (h : partition_open.f k a0_0 a0_1 a0_2 = some (r1, r2, r3, r4, r5, r6, r7, r8, r9)) :
    Calls Tryz.prog 91 #[.agg #[.int .i64 a0_0, .int .i64 a0_1, .bool a0_2]] w fun e w' => e = .returned (.agg #[.int .i64 r1, .bool r2, .int .i64 r3, .int .i64 r4, .string r5, .int .i64 r6, .int .i64 r7, .string r8, .int .i64 r9]) ∧ Below w.heap.size w w' := by
  have hu63 := Tryz.underlying63
  have hu82 := Tryz.underlying82
  have hu35 := Tryz.underlying35
  obtain ⟨k, rfl⟩ : ∃ j, k = j + 1 := by
    cases k with
    | zero => cases a0_2 <;> simp [partition_open.f, partition_open.j0] at h
    | succ j => exact ⟨j, rfl⟩
  by_cases c1 : a0_0 = 1
  · subst c1
    go_enter Tryz.func91, Tryz.ntmps91
    cases a0_2
    all_goals
      simp only [partition_open.f, partition_open.j0, Bool.false_eq_true, if_false, if_true, Option.some.injEq, Prod.mk.injEq] at h
      obtain ⟨rfl, rfl, rfl, rfl, rfl, rfl, rfl, rfl, rfl⟩ := h
      go_wp2
      refine bodyPost_ret (results_cell_row rfl _ _ (w.heap.size + 1) 82 _ (0, 0) _ rfl (by rw [← World.size_alloc w]; exact blk_alloc (heap_alloc_new _ _) _) hu82 rfl (by kernel_rfl)) rfl ⟨rfl, ?_⟩
      exact below_alloc (below_alloc (below_alloc (Below.refl w.heap.size w) _) _) _
  obtain ⟨W, hW⟩ : ∃ W, W = ((w.alloc (.cells #[.int .i64 a0_0, .int .i64 a0_1, .bool a0_2] 63)).alloc (.cells #[.int .i64 0, .bool false, .int .i64 0, .int .i64 0, .string ⟨#[]⟩, .int .i64 0, .int .i64 0, .string ⟨#[]⟩, .int .i64 0] 82)).alloc (.cells #[.int .i64 (if a0_2 = true then 1 else 0), .bool true, .int .i64 0, .int .i64 0, .string ⟨#[]⟩, .int .i64 0, .int .i64 0, .string ⟨#[]⟩, .int .i64 0] 82) := ⟨_, rfl⟩
  have E2 : W.heap[w.heap.size + 1]? = some (.cells #[.int .i64 0, .bool false, .int .i64 0, .int .i64 0, .string ⟨#[]⟩, .int .i64 0, .int .i64 0, .string ⟨#[]⟩, .int .i64 0] 82) := by
    rw [hW, ← World.size_alloc w]; exact blk_alloc (heap_alloc_new _ _) _
  have E3 : W.heap[w.heap.size + 1 + 1]? = some (.cells #[.int .i64 (if a0_2 = true then 1 else 0), .bool true, .int .i64 0, .int .i64 0, .string ⟨#[]⟩, .int .i64 0, .int .i64 0, .string ⟨#[]⟩, .int .i64 0] 82) := by
    rw [hW, ← World.size_alloc w, ← World.size_alloc (w.alloc _)]; exact heap_alloc_new _ _
  have HB : Below w.heap.size w W := by
    rw [hW]; exact below_alloc (below_alloc (below_alloc (Below.refl w.heap.size w) _) _) _
  by_cases c2 : a0_0 = 2
  · subst c2
    cases a0_2
    all_goals
      simp only [partition_open.f, partition_open.j0, Bool.false_eq_true, if_false, if_true, Option.bind_eq_some_iff, Option.some.injEq, Prod.mk.injEq, show ¬ ((2 : Int) = 1) from by decide] at h
      simp only [Bool.false_eq_true, if_false, if_true] at E2 E3 hW
      obtain ⟨⟨l0, l1, l2⟩, hl, ⟨u0, u1, u2⟩, hu, rfl, rfl, rfl, rfl, rfl, rfl, rfl, rfl, rfl⟩ := h
      go_enter Tryz.func91, Tryz.ntmps91
      go_wp2_with fail
      rw [← hW]
      clear hW
      replace HB := Lib.hid HB
      replace E2 := Lib.hid E2
      replace E3 := Lib.hid E3
      refine (partition_num.calls _ _ _ _ _ hl).mono ?_
      rintro e w1 ⟨rfl, hb⟩
      replace HB := Lib.hid (below_step HB.out hb)
      replace E2 := Lib.hid (blk_below E2.out hb)
      replace E3 := Lib.hid (blk_below E3.out hb)
      clear hb
      go_wp2_with fail
      refine (partition_num.calls _ _ _ _ _ hu).mono ?_
      rintro e w2 ⟨rfl, hb⟩
      replace HB := Lib.hid (below_step HB.out hb)
      replace E2 := Lib.hid (blk_below E2.out hb)
      replace E3 := Lib.hid (blk_below E3.out hb)
      clear hb
      have m0 := blk_cell E3.out 0
      have n0 := blk_cell E2.out 0
      have f0 := blk_frozen E2.out 0
      have g0 := blk_frozen E3.out 0
      have m1 := blk_cell E3.out 1
      have n1 := blk_cell E2.out 1
      have f1 := blk_frozen E2.out 1
      have g1 := blk_frozen E3.out 1
      have m2 := blk_cell E3.out 2
      have n2 := blk_cell E2.out 2
      have f2 := blk_frozen E2.out 2
      have g2 := blk_frozen E3.out 2
      have m3 := blk_cell E3.out 3
      have n3 := blk_cell E2.out 3
      have f3 := blk_frozen E2.out 3
      have g3 := blk_frozen E3.out 3
      have m4 := blk_cell E3.out 4
      have n4 := blk_cell E2.out 4
      have f4 := blk_frozen E2.out 4
      have g4 := blk_frozen E3.out 4
      have m5 := blk_cell E3.out 5
      have n5 := blk_cell E2.out 5
      have f5 := blk_frozen E2.out 5
      have g5 := blk_frozen E3.out 5
      have m6 := blk_cell E3.out 6
      have n6 := blk_cell E2.out 6
      have f6 := blk_frozen E2.out 6
      have g6 := blk_frozen E3.out 6
      have m7 := blk_cell E3.out 7
      have n7 := blk_cell E2.out 7
      have f7 := blk_frozen E2.out 7
      have g7 := blk_frozen E3.out 7
      have m8 := blk_cell E3.out 8
      have n8 := blk_cell E2.out 8
      have f8 := blk_frozen E2.out 8
      have g8 := blk_frozen E3.out 8
      have hne : w.heap.size + 1 ≠ w.heap.size + 1 + 1 := by omega
      have hne2 : w.heap.size + 1 + 1 ≠ w.heap.size + 1 := by omega
      go_wp2_with fail
      refine bodyPost_ret (results_cell_row rfl _ _ (w.heap.size + 1) 82 #[_, .bool true, .int .i64 l0, .int .i64 l1, .string l2, .int .i64 u0, .int .i64 u1, .string u2, .int .i64 0] (0, 0) _ rfl (blk_put (blk_set (blk_set (blk_set (blk_set (blk_set (blk_set (blk_set (blk_set (blk_far (blk_far (blk_far (blk_far (blk_far (blk_far E2.out hne _) hne _) hne _) hne _) hne _) hne _) 0 _) 1 _) 2 _) 3 _) 4 _) 5 _) 6 _) 7 _) 8 _ rfl) hu82 rfl (by kernel_rfl)) rfl ⟨rfl, ?_⟩
      repeat (with_reducible first | refine below_set ?_ (by omega))
      exact HB.out
  · cases a0_2
    all_goals
      simp only [partition_open.f, partition_open.j0, c1, c2, Bool.false_eq_true, if_false, if_true, Option.bind_eq_some_iff, Option.some.injEq, Prod.mk.injEq] at h
      simp only [Bool.false_eq_true, if_false, if_true] at E2 E3 hW
      obtain ⟨⟨l0, l1, l2⟩, hl, t, ht, ⟨u0, u1, u2⟩, hu, rfl, rfl, rfl, rfl, rfl, rfl, rfl, rfl, rfl⟩ := h
      have c1' : decide (a0_0 = 1) = false := decide_eq_false c1
      have c2' : decide (a0_0 = 2) = false := decide_eq_false c2
      go_enter Tryz.func91, Tryz.ntmps91
      go_wp2_with fail
      rw [← hW]
      clear hW
      replace HB := Lib.hid HB
      replace E2 := Lib.hid E2
      replace E3 := Lib.hid E3
      refine (partition_str.calls _ _ _ _ _ hl).mono ?_
      rintro e w1 ⟨rfl, hb⟩
      replace HB := Lib.hid (below_step HB.out hb)
      replace E2 := Lib.hid (blk_below E2.out hb)
      replace E3 := Lib.hid (blk_below E3.out hb)
      clear hb
      go_wp2_with fail
      refine (strings_Repeat.calls _ _ _ _ ht).mono ?_
      rintro e w2 ⟨rfl, hb⟩
      replace HB := Lib.hid (below_step HB.out hb)
      replace E2 := Lib.hid (blk_below E2.out hb)
      replace E3 := Lib.hid (blk_below E3.out hb)
      clear hb
      go_wp2_with fail
      refine (partition_str.calls _ _ _ _ _ hu).mono ?_
      rintro e w3 ⟨rfl, hb⟩
      replace HB := Lib.hid (below_step HB.out hb)
      replace E2 := Lib.hid (blk_below E2.out hb)
      replace E3 := Lib.hid (blk_below E3.out hb)
      clear hb
      have m0 := blk_cell E3.out 0
      have n0 := blk_cell E2.out 0
      have f0 := blk_frozen E2.out 0
      have g0 := blk_frozen E3.out 0
      have m1 := blk_cell E3.out 1
      have n1 := blk_cell E2.out 1
      have f1 := blk_frozen E2.out 1
      have g1 := blk_frozen E3.out 1
      have m2 := blk_cell E3.out 2
      have n2 := blk_cell E2.out 2
      have f2 := blk_frozen E2.out 2
      have g2 := blk_frozen E3.out 2
      have m3 := blk_cell E3.out 3
      have n3 := blk_cell E2.out 3
      have f3 := blk_frozen E2.out 3
      have g3 := blk_frozen E3.out 3
      have m4 := blk_cell E3.out 4
      have n4 := blk_cell E2.out 4
      have f4 := blk_frozen E2.out 4
      have g4 := blk_frozen E3.out 4
      have m5 := blk_cell E3.out 5
      have n5 := blk_cell E2.out 5
      have f5 := blk_frozen E2.out 5
      have g5 := blk_frozen E3.out 5
      have m6 := blk_cell E3.out 6
      have n6 := blk_cell E2.out 6
      have f6 := blk_frozen E2.out 6
      have g6 := blk_frozen E3.out 6
      have m7 := blk_cell E3.out 7
      have n7 := blk_cell E2.out 7
      have f7 := blk_frozen E2.out 7
      have g7 := blk_frozen E3.out 7
      have m8 := blk_cell E3.out 8
      have n8 := blk_cell E2.out 8
      have f8 := blk_frozen E2.out 8
      have g8 := blk_frozen E3.out 8
      have hne : w.heap.size + 1 ≠ w.heap.size + 1 + 1 := by omega
      have hne2 : w.heap.size + 1 + 1 ≠ w.heap.size + 1 := by omega
      go_wp2_with fail
      refine bodyPost_ret (results_cell_row rfl _ _ (w.heap.size + 1) 82 #[_, .bool true, .int .i64 l0, .int .i64 l1, .string l2, .int .i64 u0, .int .i64 u1, .string u2, .int .i64 0] (0, 0) _ rfl (blk_put (blk_set (blk_set (blk_set (blk_set (blk_set (blk_set (blk_set (blk_set (blk_far (blk_far (blk_far (blk_far (blk_far (blk_far E2.out hne _) hne _) hne _) hne _) hne _) hne _) 0 _) 1 _) 2 _) 3 _) 4 _) 5 _) 6 _) 7 _) 8 _ rfl) hu82 rfl (by kernel_rfl)) rfl ⟨rfl, ?_⟩
      repeat (with_reducible first | refine below_set ?_ (by omega))
      exact HB.out
end Go.Proofs.YteflfnjljjianaaGreatDoor.Qx
