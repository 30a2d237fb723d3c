/- Part of a proof of PartitionBoundsCardSaid: functions of the given program and what they compute, each checked by the kernel. -/
import Derived.Test.YteflfnjljjianaaGreatDoorPB02
import Derived.ArgAppend
import Derived.Maps.AppendAt
import Derived.RangeFuncFrom
import Derived.RangeFuncCalls
import Derived.RangeFuncLeaves
import Derived.OwnWalkIn
import Derived.TacticsInMore
import Derived.LoopNIn
import Derived.LoopIn
import Derived.Shelf.RegionOpen
import Derived.Shelf.Abstract
namespace Go.Proofs.YteflfnjljjianaaGreatDoor.Qx
open Go.RowKit Go.Proofs.YteflfnjljjianaaGreatDoorW.PrintWords Go.Proofs.YteflfnjljjianaaGreatDoorW.PrintLast Go.Proofs.YteflfnjljjianaaGreatDoorW.PrintMore
attribute [local go_sem] max2_int min2_int max_two min_two
set_option linter.unusedVariables false
set_option linter.unusedSimpArgs false
theorem eqA27 (d : Nat) (w : World) (x0 y0 : Int) (x1 y1 : Int) (x2 y2 : Int) :
    (Op.equalIn (d + 2) 27 (.agg #[.int .i64 x0, .int .i64 x1, .int .i64 x2]) (.agg #[.int .i64 y0, .int .i64 y1, .int .i64 y2])).run Tryz.prog w = .ok (x0 == y0 && (x1 == y1 && (x2 == y2))) w := by
  refine eqA_of Tryz.underlying27 (by kernel_rfl) ?_
  refine eqf_cons (by rfl) (by go_simp; rfl) (by go_simp; rfl) (by go_simp) ?_
  refine eqf_cons (by rfl) (by go_simp; rfl) (by go_simp; rfl) (by go_simp) ?_
  exact eqf_last (by rfl) (by go_simp; rfl) (by go_simp; rfl) (by go_simp)
attribute [local go_sem high] eqA27
def partition_Valid.kind (K : Int) (t : S63) (n : Int) : Option Bool := if K = 1 then partition_kinds_1.f t.f0 t.f1 t.f2 n else if K = 2 then partition_kinds_2.f t.f0 t.f1 t.f2 n else partition_truncates.f t.f0 t.f1 t.f2 n
def partition_Valid.f (l0 : List S63) (a1_0 a1_1 a1_2 : Int) : Option Bool :=
  if l0.length ≤ 9223372036854775807 then if l0.any badType = true then some false else if a1_0 = 0 then some (a1_1 == 0 && (a1_2 == 0)) else if 0 < a1_0 ∧ a1_0 < 4 ∧ 0 ≤ a1_1 ∧ a1_1 < (l0.length : Int) then partition_Valid.kind a1_0 (rd_T63 l0 a1_1) a1_2 else some false else none
set_option maxRecDepth 100000 in
set_option maxHeartbeats 4000000 in
theorem partition_Valid.bad (A0 : Option Addr) (c0 : Nat) (l0 : List S63) (a1_0 : Int) (a1_1 a1_2 : Int) (w : World) (hr : Kd.C k63 w A0 l0.length l0) (hl : l0.length ≤ 9223372036854775807) (ha : l0.any badType = true) :
    Calls Tryz.prog 13 #[.slice A0 l0.length c0, .agg #[.int .i64 a1_0, .int .i64 a1_1, .int .i64 a1_2]] w fun e w' => e = .returned (.bool false) ∧ Below w.heap.size w w' := by
  have hu27 := Tryz.underlying27
  have hu63 := Tryz.underlying63
  have HL := Lib.hid hl
  have HR := Lib.hid hr
  have HA := Lib.hid ha
  clear hl hr ha
  go_enter Tryz.func13, Tryz.ntmps13
  go_wp2_with fail
  have hb := Lib.hid ((Below.refl _ w).alloc (Nat.le_refl _) (.cells #[.int .i64 a1_0, .int .i64 a1_1, .int .i64 a1_2] 27))
  have k0_0 : (w.alloc (.cells #[.int .i64 a1_0, .int .i64 a1_1, .int .i64 a1_2] 27)).cell? ⟨w.heap.size, 0, none⟩ = some (.int .i64 a1_0) := by simp [go_sem]
  have k0_1 : (w.alloc (.cells #[.int .i64 a1_0, .int .i64 a1_1, .int .i64 a1_2] 27)).cell? ⟨w.heap.size, 1, none⟩ = some (.int .i64 a1_1) := by simp [go_sem]
  have k0_2 : (w.alloc (.cells #[.int .i64 a1_0, .int .i64 a1_1, .int .i64 a1_2] 27)).cell? ⟨w.heap.size, 2, none⟩ = some (.int .i64 a1_2) := by simp [go_sem]
  have lt0 : w.heap.size < (w.alloc (.cells #[.int .i64 a1_0, .int .i64 a1_1, .int .i64 a1_2] 27)).heap.size := by simp only [World.size_alloc]; omega
  generalize w.alloc (.cells #[.int .i64 a1_0, .int .i64 a1_1, .int .i64 a1_2] 27) = W at *
  clear lt0
  refine (ContainsFunc_Type A0 c0 l0 _ (Kd.C_below HR.out hb.out) HL.out).mono ?_
  rintro e W2 ⟨rfl, hb1⟩
  rw [HA.out]
  replace k0_0 := pw_cell_below hb1 k0_0
  replace k0_1 := pw_cell_below hb1 k0_1
  replace k0_2 := pw_cell_below hb1 k0_2
  have hB := Lib.hid (below_then hb.out hb.out.size hb1)
  clear hb hb1
  go_wp2
  go_ret
  exact ⟨rfl, hB.out⟩
set_option maxRecDepth 100000 in
set_option maxHeartbeats 4000000 in
theorem partition_Valid.zero (A0 : Option Addr) (c0 : Nat) (l0 : List S63) (a1_1 a1_2 : Int) (w : World) (hr : Kd.C k63 w A0 l0.length l0) (hl : l0.length ≤ 9223372036854775807) (ha : l0.any badType = false) :
    Calls Tryz.prog 13 #[.slice A0 l0.length c0, .agg #[.int .i64 0, .int .i64 a1_1, .int .i64 a1_2]] w fun e w' => e = .returned (.bool (a1_1 == 0 && (a1_2 == 0))) ∧ Below w.heap.size w w' := by
  have hu27 := Tryz.underlying27
  have hu63 := Tryz.underlying63
  have HL := Lib.hid hl
  have HR := Lib.hid hr
  have HA := Lib.hid ha
  clear hl hr ha
  go_enter Tryz.func13, Tryz.ntmps13
  go_wp2_with fail
  have hb := Lib.hid ((Below.refl _ w).alloc (Nat.le_refl _) (.cells #[.int .i64 0, .int .i64 a1_1, .int .i64 a1_2] 27))
  have k0_0 : (w.alloc (.cells #[.int .i64 0, .int .i64 a1_1, .int .i64 a1_2] 27)).cell? ⟨w.heap.size, 0, none⟩ = some (.int .i64 0) := by simp [go_sem]
  have k0_1 : (w.alloc (.cells #[.int .i64 0, .int .i64 a1_1, .int .i64 a1_2] 27)).cell? ⟨w.heap.size, 1, none⟩ = some (.int .i64 a1_1) := by simp [go_sem]
  have k0_2 : (w.alloc (.cells #[.int .i64 0, .int .i64 a1_1, .int .i64 a1_2] 27)).cell? ⟨w.heap.size, 2, none⟩ = some (.int .i64 a1_2) := by simp [go_sem]
  have lt0 : w.heap.size < (w.alloc (.cells #[.int .i64 0, .int .i64 a1_1, .int .i64 a1_2] 27)).heap.size := by simp only [World.size_alloc]; omega
  generalize w.alloc (.cells #[.int .i64 0, .int .i64 a1_1, .int .i64 a1_2] 27) = W at *
  clear lt0
  refine (ContainsFunc_Type A0 c0 l0 _ (Kd.C_below HR.out hb.out) HL.out).mono ?_
  rintro e W2 ⟨rfl, hb1⟩
  rw [HA.out]
  replace k0_0 := pw_cell_below hb1 k0_0
  replace k0_1 := pw_cell_below hb1 k0_1
  replace k0_2 := pw_cell_below hb1 k0_2
  have hB := Lib.hid (below_then hb.out hb.out.size hb1)
  clear hb hb1
  go_wp2
  go_ret
  exact ⟨by simp, hB.out⟩
set_option maxRecDepth 100000 in
set_option maxHeartbeats 4000000 in
theorem partition_Valid.neg (A0 : Option Addr) (c0 : Nat) (l0 : List S63) (a1_0 : Int) (a1_1 a1_2 : Int) (w : World) (hr : Kd.C k63 w A0 l0.length l0) (hl : l0.length ≤ 9223372036854775807) (ha : l0.any badType = false) (h0 : (a1_0 == 0) = false) (h1 : decide (0 < a1_0) = false) :
    Calls Tryz.prog 13 #[.slice A0 l0.length c0, .agg #[.int .i64 a1_0, .int .i64 a1_1, .int .i64 a1_2]] w fun e w' => e = .returned (.bool false) ∧ Below w.heap.size w w' := by
  have hu27 := Tryz.underlying27
  have hu63 := Tryz.underlying63
  have HL := Lib.hid hl
  have HR := Lib.hid hr
  have HA := Lib.hid ha
  clear hl hr ha
  go_enter Tryz.func13, Tryz.ntmps13
  go_wp2_with fail
  have hb := Lib.hid ((Below.refl _ w).alloc (Nat.le_refl _) (.cells #[.int .i64 a1_0, .int .i64 a1_1, .int .i64 a1_2] 27))
  have k0_0 : (w.alloc (.cells #[.int .i64 a1_0, .int .i64 a1_1, .int .i64 a1_2] 27)).cell? ⟨w.heap.size, 0, none⟩ = some (.int .i64 a1_0) := by simp [go_sem]
  have k0_1 : (w.alloc (.cells #[.int .i64 a1_0, .int .i64 a1_1, .int .i64 a1_2] 27)).cell? ⟨w.heap.size, 1, none⟩ = some (.int .i64 a1_1) := by simp [go_sem]
  have k0_2 : (w.alloc (.cells #[.int .i64 a1_0, .int .i64 a1_1, .int .i64 a1_2] 27)).cell? ⟨w.heap.size, 2, none⟩ = some (.int .i64 a1_2) := by simp [go_sem]
  have lt0 : w.heap.size < (w.alloc (.cells #[.int .i64 a1_0, .int .i64 a1_1, .int .i64 a1_2] 27)).heap.size := by simp only [World.size_alloc]; omega
  generalize w.alloc (.cells #[.int .i64 a1_0, .int .i64 a1_1, .int .i64 a1_2] 27) = W at *
  clear lt0
  refine (ContainsFunc_Type A0 c0 l0 _ (Kd.C_below HR.out hb.out) HL.out).mono ?_
  rintro e W2 ⟨rfl, hb1⟩
  rw [HA.out]
  replace k0_0 := pw_cell_below hb1 k0_0
  replace k0_1 := pw_cell_below hb1 k0_1
  replace k0_2 := pw_cell_below hb1 k0_2
  have hB := Lib.hid (below_then hb.out hb.out.size hb1)
  clear hb hb1
  go_wp2
  replace k0_0 := cell_regrown k0_0
  replace k0_1 := cell_regrown k0_1
  replace k0_2 := cell_regrown k0_2
  refine wp_region_quiet_below (by kernel_rfl) (by kernel_rfl) ?_
  repeat (first | go_big_quiet_step (first | exact Calls.regrown_of (partition_kinds.tab _)) | quiet_step (first | exact Calls.regrown_of (partition_kinds.tab _)))
  refine wpQuiet_nil ?_
  intro _ hw'
  obtain ⟨⟨dq, osq⟩, hw''⟩ := hw'
  subst hw''
  have hD := Lib.hid (below_regrown W2 dq osq)
  go_wp2
  go_ret
  exact ⟨rfl, below_then hB.out hB.out.size hD.out⟩
set_option maxRecDepth 100000 in
set_option maxHeartbeats 4000000 in
theorem partition_Valid.big (A0 : Option Addr) (c0 : Nat) (l0 : List S63) (a1_0 : Int) (a1_1 a1_2 : Int) (w : World) (hr : Kd.C k63 w A0 l0.length l0) (hl : l0.length ≤ 9223372036854775807) (ha : l0.any badType = false) (h0 : (a1_0 == 0) = false) (h1 : decide (0 < a1_0) = true) (h2 : decide (a1_0 < 4) = false) :
    Calls Tryz.prog 13 #[.slice A0 l0.length c0, .agg #[.int .i64 a1_0, .int .i64 a1_1, .int .i64 a1_2]] w fun e w' => e = .returned (.bool false) ∧ Below w.heap.size w w' := by
  have hu27 := Tryz.underlying27
  have hu63 := Tryz.underlying63
  have HL := Lib.hid hl
  have HR := Lib.hid hr
  have HA := Lib.hid ha
  clear hl hr ha
  go_enter Tryz.func13, Tryz.ntmps13
  go_wp2_with fail
  have hb := Lib.hid ((Below.refl _ w).alloc (Nat.le_refl _) (.cells #[.int .i64 a1_0, .int .i64 a1_1, .int .i64 a1_2] 27))
  have k0_0 : (w.alloc (.cells #[.int .i64 a1_0, .int .i64 a1_1, .int .i64 a1_2] 27)).cell? ⟨w.heap.size, 0, none⟩ = some (.int .i64 a1_0) := by simp [go_sem]
  have k0_1 : (w.alloc (.cells #[.int .i64 a1_0, .int .i64 a1_1, .int .i64 a1_2] 27)).cell? ⟨w.heap.size, 1, none⟩ = some (.int .i64 a1_1) := by simp [go_sem]
  have k0_2 : (w.alloc (.cells #[.int .i64 a1_0, .int .i64 a1_1, .int .i64 a1_2] 27)).cell? ⟨w.heap.size, 2, none⟩ = some (.int .i64 a1_2) := by simp [go_sem]
  have lt0 : w.heap.size < (w.alloc (.cells #[.int .i64 a1_0, .int .i64 a1_1, .int .i64 a1_2] 27)).heap.size := by simp only [World.size_alloc]; omega
  generalize w.alloc (.cells #[.int .i64 a1_0, .int .i64 a1_1, .int .i64 a1_2] 27) = W at *
  clear lt0
  refine (ContainsFunc_Type A0 c0 l0 _ (Kd.C_below HR.out hb.out) HL.out).mono ?_
  rintro e W2 ⟨rfl, hb1⟩
  rw [HA.out]
  replace k0_0 := pw_cell_below hb1 k0_0
  replace k0_1 := pw_cell_below hb1 k0_1
  replace k0_2 := pw_cell_below hb1 k0_2
  have hB := Lib.hid (below_then hb.out hb.out.size hb1)
  clear hb hb1
  go_wp2
  replace k0_0 := cell_regrown k0_0
  replace k0_1 := cell_regrown k0_1
  replace k0_2 := cell_regrown k0_2
  refine wp_region_quiet_below (by kernel_rfl) (by kernel_rfl) ?_
  repeat (first | go_big_quiet_step (first | exact Calls.regrown_of (partition_kinds.tab _)) | quiet_step (first | exact Calls.regrown_of (partition_kinds.tab _)))
  refine wpQuiet_nil ?_
  intro _ hw'
  obtain ⟨⟨dq, osq⟩, hw''⟩ := hw'
  subst hw''
  have hD := Lib.hid (below_regrown W2 dq osq)
  go_wp2
  go_ret
  exact ⟨rfl, below_then hB.out hB.out.size hD.out⟩
set_option maxRecDepth 100000 in
set_option maxHeartbeats 4000000 in
theorem partition_Valid.low (A0 : Option Addr) (c0 : Nat) (l0 : List S63) (a1_0 : Int) (a1_1 a1_2 : Int) (w : World) (hr : Kd.C k63 w A0 l0.length l0) (hl : l0.length ≤ 9223372036854775807) (ha : l0.any badType = false) (h0 : (a1_0 == 0) = false) (h1 : decide (0 < a1_0) = true) (h2 : decide (a1_0 < 4) = true) (h3 : decide (0 ≤ a1_1) = false) :
    Calls Tryz.prog 13 #[.slice A0 l0.length c0, .agg #[.int .i64 a1_0, .int .i64 a1_1, .int .i64 a1_2]] w fun e w' => e = .returned (.bool false) ∧ Below w.heap.size w w' := by
  have hu27 := Tryz.underlying27
  have hu63 := Tryz.underlying63
  have HL := Lib.hid hl
  have HR := Lib.hid hr
  have HA := Lib.hid ha
  clear hl hr ha
  go_enter Tryz.func13, Tryz.ntmps13
  go_wp2_with fail
  have hb := Lib.hid ((Below.refl _ w).alloc (Nat.le_refl _) (.cells #[.int .i64 a1_0, .int .i64 a1_1, .int .i64 a1_2] 27))
  have k0_0 : (w.alloc (.cells #[.int .i64 a1_0, .int .i64 a1_1, .int .i64 a1_2] 27)).cell? ⟨w.heap.size, 0, none⟩ = some (.int .i64 a1_0) := by simp [go_sem]
  have k0_1 : (w.alloc (.cells #[.int .i64 a1_0, .int .i64 a1_1, .int .i64 a1_2] 27)).cell? ⟨w.heap.size, 1, none⟩ = some (.int .i64 a1_1) := by simp [go_sem]
  have k0_2 : (w.alloc (.cells #[.int .i64 a1_0, .int .i64 a1_1, .int .i64 a1_2] 27)).cell? ⟨w.heap.size, 2, none⟩ = some (.int .i64 a1_2) := by simp [go_sem]
  have lt0 : w.heap.size < (w.alloc (.cells #[.int .i64 a1_0, .int .i64 a1_1, .int .i64 a1_2] 27)).heap.size := by simp only [World.size_alloc]; omega
  generalize w.alloc (.cells #[.int .i64 a1_0, .int .i64 a1_1, .int .i64 a1_2] 27) = W at *
  clear lt0
  refine (ContainsFunc_Type A0 c0 l0 _ (Kd.C_below HR.out hb.out) HL.out).mono ?_
  rintro e W2 ⟨rfl, hb1⟩
  rw [HA.out]
  replace k0_0 := pw_cell_below hb1 k0_0
  replace k0_1 := pw_cell_below hb1 k0_1
  replace k0_2 := pw_cell_below hb1 k0_2
  have hB := Lib.hid (below_then hb.out hb.out.size hb1)
  clear hb hb1
  go_wp2
  replace k0_0 := cell_regrown k0_0
  replace k0_1 := cell_regrown k0_1
  replace k0_2 := cell_regrown k0_2
  refine wp_region_quiet_below (by kernel_rfl) (by kernel_rfl) ?_
  repeat (first | go_big_quiet_step (first | exact Calls.regrown_of (partition_kinds.tab _)) | quiet_step (first | exact Calls.regrown_of (partition_kinds.tab _)))
  refine wpQuiet_nil ?_
  intro _ hw'
  obtain ⟨⟨dq, osq⟩, hw''⟩ := hw'
  subst hw''
  have hD := Lib.hid (below_regrown W2 dq osq)
  go_wp2
  go_ret
  exact ⟨rfl, below_then hB.out hB.out.size hD.out⟩
set_option maxRecDepth 100000 in
set_option maxHeartbeats 4000000 in
theorem partition_Valid.high (A0 : Option Addr) (c0 : Nat) (l0 : List S63) (a1_0 : Int) (a1_1 a1_2 : Int) (w : World) (hr : Kd.C k63 w A0 l0.length l0) (hl : l0.length ≤ 9223372036854775807) (ha : l0.any badType = false) (h0 : (a1_0 == 0) = false) (h1 : decide (0 < a1_0) = true) (h2 : decide (a1_0 < 4) = true) (h3 : decide (0 ≤ a1_1) = true) (h4 : decide (a1_1 < (l0.length : Int)) = false) :
    Calls Tryz.prog 13 #[.slice A0 l0.length c0, .agg #[.int .i64 a1_0, .int .i64 a1_1, .int .i64 a1_2]] w fun e w' => e = .returned (.bool false) ∧ Below w.heap.size w w' := by
  have hu27 := Tryz.underlying27
  have hu63 := Tryz.underlying63
  have HL := Lib.hid hl
  have HR := Lib.hid hr
  have HA := Lib.hid ha
  clear hl hr ha
  go_enter Tryz.func13, Tryz.ntmps13
  go_wp2_with fail
  have hb := Lib.hid ((Below.refl _ w).alloc (Nat.le_refl _) (.cells #[.int .i64 a1_0, .int .i64 a1_1, .int .i64 a1_2] 27))
  have k0_0 : (w.alloc (.cells #[.int .i64 a1_0, .int .i64 a1_1, .int .i64 a1_2] 27)).cell? ⟨w.heap.size, 0, none⟩ = some (.int .i64 a1_0) := by simp [go_sem]
  have k0_1 : (w.alloc (.cells #[.int .i64 a1_0, .int .i64 a1_1, .int .i64 a1_2] 27)).cell? ⟨w.heap.size, 1, none⟩ = some (.int .i64 a1_1) := by simp [go_sem]
  have k0_2 : (w.alloc (.cells #[.int .i64 a1_0, .int .i64 a1_1, .int .i64 a1_2] 27)).cell? ⟨w.heap.size, 2, none⟩ = some (.int .i64 a1_2) := by simp [go_sem]
  have lt0 : w.heap.size < (w.alloc (.cells #[.int .i64 a1_0, .int .i64 a1_1, .int .i64 a1_2] 27)).heap.size := by simp only [World.size_alloc]; omega
  generalize w.alloc (.cells #[.int .i64 a1_0, .int .i64 a1_1, .int .i64 a1_2] 27) = W at *
  clear lt0
  refine (ContainsFunc_Type A0 c0 l0 _ (Kd.C_below HR.out hb.out) HL.out).mono ?_
  rintro e W2 ⟨rfl, hb1⟩
  rw [HA.out]
  replace k0_0 := pw_cell_below hb1 k0_0
  replace k0_1 := pw_cell_below hb1 k0_1
  replace k0_2 := pw_cell_below hb1 k0_2
  have hB := Lib.hid (below_then hb.out hb.out.size hb1)
  clear hb hb1
  go_wp2
  replace k0_0 := cell_regrown k0_0
  replace k0_1 := cell_regrown k0_1
  replace k0_2 := cell_regrown k0_2
  refine wp_region_quiet_below (by kernel_rfl) (by kernel_rfl) ?_
  repeat (first | go_big_quiet_step (first | exact Calls.regrown_of (partition_kinds.tab _)) | quiet_step (first | exact Calls.regrown_of (partition_kinds.tab _)))
  refine wpQuiet_nil ?_
  intro _ hw'
  obtain ⟨⟨dq, osq⟩, hw''⟩ := hw'
  subst hw''
  have hD := Lib.hid (below_regrown W2 dq osq)
  go_wp2
  go_ret
  exact ⟨rfl, below_then hB.out hB.out.size hD.out⟩
set_option maxRecDepth 100000 in
set_option maxHeartbeats 4000000 in
theorem partition_Valid.case1 (A0 : Option Addr) (c0 : Nat) (l0 : List S63) (a1_1 a1_2 : Int) (w : World) (hr : Kd.C k63 w A0 l0.length l0) (hl : l0.length ≤ 9223372036854775807) (ha : l0.any badType = false) (h3 : decide (0 ≤ a1_1) = true) (h4 : decide (a1_1 < (l0.length : Int)) = true) (i0 : 0 ≤ a1_1) (i1 : a1_1 < (l0.length : Int)) (r : Bool) (hf : ∀ w, Calls Tryz.prog 75 #[.agg #[.int .i64 (rd_T63 l0 a1_1).f0, .int .i64 (rd_T63 l0 a1_1).f1, .bool (rd_T63 l0 a1_1).f2], .int .i64 a1_2] w fun e w' => e = .returned (.bool r) ∧ Below w.heap.size w w') :
    Calls Tryz.prog 13 #[.slice A0 l0.length c0, .agg #[.int .i64 1, .int .i64 a1_1, .int .i64 a1_2]] w fun e w' => e = .returned (.bool r) ∧ Below w.heap.size w w' := by
  have HF := Lib.hid hf
  clear hf
  obtain ⟨ad, e0, y0, y1, y2⟩ := at_T63 hr a1_1 i0 i1
  subst e0
  have Y0 := Lib.hid y0
  have Y1 := Lib.hid y1
  have Y2 := Lib.hid y2
  clear y0 y1 y2
  have hu27 := Tryz.underlying27
  have hu63 := Tryz.underlying63
  have HL := Lib.hid hl
  have HR := Lib.hid hr
  have HA := Lib.hid ha
  clear hl hr ha
  go_enter Tryz.func13, Tryz.ntmps13
  go_wp2_with fail
  have hb := Lib.hid ((Below.refl _ w).alloc (Nat.le_refl _) (.cells #[.int .i64 1, .int .i64 a1_1, .int .i64 a1_2] 27))
  have k0_0 : (w.alloc (.cells #[.int .i64 1, .int .i64 a1_1, .int .i64 a1_2] 27)).cell? ⟨w.heap.size, 0, none⟩ = some (.int .i64 1) := by simp [go_sem]
  have k0_1 : (w.alloc (.cells #[.int .i64 1, .int .i64 a1_1, .int .i64 a1_2] 27)).cell? ⟨w.heap.size, 1, none⟩ = some (.int .i64 a1_1) := by simp [go_sem]
  have k0_2 : (w.alloc (.cells #[.int .i64 1, .int .i64 a1_1, .int .i64 a1_2] 27)).cell? ⟨w.heap.size, 2, none⟩ = some (.int .i64 a1_2) := by simp [go_sem]
  have lt0 : w.heap.size < (w.alloc (.cells #[.int .i64 1, .int .i64 a1_1, .int .i64 a1_2] 27)).heap.size := by simp only [World.size_alloc]; omega
  generalize w.alloc (.cells #[.int .i64 1, .int .i64 a1_1, .int .i64 a1_2] 27) = W at *
  clear lt0
  refine (ContainsFunc_Type (some ad) c0 l0 _ (Kd.C_below HR.out hb.out) HL.out).mono ?_
  rintro e W2 ⟨rfl, hb1⟩
  rw [HA.out]
  replace k0_0 := pw_cell_below hb1 k0_0
  replace k0_1 := pw_cell_below hb1 k0_1
  replace k0_2 := pw_cell_below hb1 k0_2
  have hB := Lib.hid (below_then hb.out hb.out.size hb1)
  clear hb hb1
  have y0 := pw_cell_below hB.out Y0.out
  have y1 := pw_cell_below hB.out Y1.out
  have y2 := pw_cell_below hB.out Y2.out
  go_wp2
  generalize rd_T63 l0 a1_1 = t at *
  replace k0_0 := cell_regrown k0_0
  replace k0_1 := cell_regrown k0_1
  replace k0_2 := cell_regrown k0_2
  replace y0 := cell_regrown y0
  replace y1 := cell_regrown y1
  replace y2 := cell_regrown y2
  have z1 := partition_kinds.at1
  have z2 := partition_kinds.fld1_0
  refine wp_region_quiet_below (by kernel_rfl) (by kernel_rfl) ?_
  repeat (first | go_big_quiet_step (first | exact Calls.regrown_of (partition_kinds.tab _) | exact Calls.regrown_of (HF.out _)) | quiet_step (first | exact Calls.regrown_of (partition_kinds.tab _) | exact Calls.regrown_of (HF.out _)))
  refine wpQuiet_nil ?_
  intro _ hw'
  obtain ⟨⟨dq, osq⟩, hw''⟩ := hw'
  subst hw''
  have hD := Lib.hid (below_regrown W2 dq osq)
  go_wp2
  go_ret
  exact ⟨rfl, below_then hB.out hB.out.size hD.out⟩
set_option maxRecDepth 100000 in
set_option maxHeartbeats 4000000 in
theorem partition_Valid.case2 (A0 : Option Addr) (c0 : Nat) (l0 : List S63) (a1_1 a1_2 : Int) (w : World) (hr : Kd.C k63 w A0 l0.length l0) (hl : l0.length ≤ 9223372036854775807) (ha : l0.any badType = false) (h3 : decide (0 ≤ a1_1) = true) (h4 : decide (a1_1 < (l0.length : Int)) = true) (i0 : 0 ≤ a1_1) (i1 : a1_1 < (l0.length : Int)) (r : Bool) (hf : ∀ w, Calls Tryz.prog 78 #[.agg #[.int .i64 (rd_T63 l0 a1_1).f0, .int .i64 (rd_T63 l0 a1_1).f1, .bool (rd_T63 l0 a1_1).f2], .int .i64 a1_2] w fun e w' => e = .returned (.bool r) ∧ Below w.heap.size w w') :
    Calls Tryz.prog 13 #[.slice A0 l0.length c0, .agg #[.int .i64 2, .int .i64 a1_1, .int .i64 a1_2]] w fun e w' => e = .returned (.bool r) ∧ Below w.heap.size w w' := by
  have HF := Lib.hid hf
  clear hf
  obtain ⟨ad, e0, y0, y1, y2⟩ := at_T63 hr a1_1 i0 i1
  subst e0
  have Y0 := Lib.hid y0
  have Y1 := Lib.hid y1
  have Y2 := Lib.hid y2
  clear y0 y1 y2
  have hu27 := Tryz.underlying27
  have hu63 := Tryz.underlying63
  have HL := Lib.hid hl
  have HR := Lib.hid hr
  have HA := Lib.hid ha
  clear hl hr ha
  go_enter Tryz.func13, Tryz.ntmps13
  go_wp2_with fail
  have hb := Lib.hid ((Below.refl _ w).alloc (Nat.le_refl _) (.cells #[.int .i64 2, .int .i64 a1_1, .int .i64 a1_2] 27))
  have k0_0 : (w.alloc (.cells #[.int .i64 2, .int .i64 a1_1, .int .i64 a1_2] 27)).cell? ⟨w.heap.size, 0, none⟩ = some (.int .i64 2) := by simp [go_sem]
  have k0_1 : (w.alloc (.cells #[.int .i64 2, .int .i64 a1_1, .int .i64 a1_2] 27)).cell? ⟨w.heap.size, 1, none⟩ = some (.int .i64 a1_1) := by simp [go_sem]
  have k0_2 : (w.alloc (.cells #[.int .i64 2, .int .i64 a1_1, .int .i64 a1_2] 27)).cell? ⟨w.heap.size, 2, none⟩ = some (.int .i64 a1_2) := by simp [go_sem]
  have lt0 : w.heap.size < (w.alloc (.cells #[.int .i64 2, .int .i64 a1_1, .int .i64 a1_2] 27)).heap.size := by simp only [World.size_alloc]; omega
  generalize w.alloc (.cells #[.int .i64 2, .int .i64 a1_1, .int .i64 a1_2] 27) = W at *
  clear lt0
  refine (ContainsFunc_Type (some ad) c0 l0 _ (Kd.C_below HR.out hb.out) HL.out).mono ?_
  rintro e W2 ⟨rfl, hb1⟩
  rw [HA.out]
  replace k0_0 := pw_cell_below hb1 k0_0
  replace k0_1 := pw_cell_below hb1 k0_1
  replace k0_2 := pw_cell_below hb1 k0_2
  have hB := Lib.hid (below_then hb.out hb.out.size hb1)
  clear hb hb1
  have y0 := pw_cell_below hB.out Y0.out
  have y1 := pw_cell_below hB.out Y1.out
  have y2 := pw_cell_below hB.out Y2.out
  go_wp2
  generalize rd_T63 l0 a1_1 = t at *
  replace k0_0 := cell_regrown k0_0
  replace k0_1 := cell_regrown k0_1
  replace k0_2 := cell_regrown k0_2
  replace y0 := cell_regrown y0
  replace y1 := cell_regrown y1
  replace y2 := cell_regrown y2
  have z1 := partition_kinds.at2
  have z2 := partition_kinds.fld2_0
  refine wp_region_quiet_below (by kernel_rfl) (by kernel_rfl) ?_
  repeat (first | go_big_quiet_step (first | exact Calls.regrown_of (partition_kinds.tab _) | exact Calls.regrown_of (HF.out _)) | quiet_step (first | exact Calls.regrown_of (partition_kinds.tab _) | exact Calls.regrown_of (HF.out _)))
  refine wpQuiet_nil ?_
  intro _ hw'
  obtain ⟨⟨dq, osq⟩, hw''⟩ := hw'
  subst hw''
  have hD := Lib.hid (below_regrown W2 dq osq)
  go_wp2
  go_ret
  exact ⟨rfl, below_then hB.out hB.out.size hD.out⟩
set_option maxRecDepth 100000 in
set_option maxHeartbeats 4000000 in
theorem partition_Valid.case3 (A0 : Option Addr) (c0 : Nat) (l0 : List S63) (a1_1 a1_2 : Int) (w : World) (hr : Kd.C k63 w A0 l0.length l0) (hl : l0.length ≤ 9223372036854775807) (ha : l0.any badType = false) (h3 : decide (0 ≤ a1_1) = true) (h4 : decide (a1_1 < (l0.length : Int)) = true) (i0 : 0 ≤ a1_1) (i1 : a1_1 < (l0.length : Int)) (r : Bool) (hf : ∀ w, Calls Tryz.prog 81 #[.agg #[.int .i64 (rd_T63 l0 a1_1).f0, .int .i64 (rd_T63 l0 a1_1).f1, .bool (rd_T63 l0 a1_1).f2], .int .i64 a1_2] w fun e w' => e = .returned (.bool r) ∧ Below w.heap.size w w') :
    Calls Tryz.prog 13 #[.slice A0 l0.length c0, .agg #[.int .i64 3, .int .i64 a1_1, .int .i64 a1_2]] w fun e w' => e = .returned (.bool r) ∧ Below w.heap.size w w' := by
  have HF := Lib.hid hf
  clear hf
  obtain ⟨ad, e0, y0, y1, y2⟩ := at_T63 hr a1_1 i0 i1
  subst e0
  have Y0 := Lib.hid y0
  have Y1 := Lib.hid y1
  have Y2 := Lib.hid y2
  clear y0 y1 y2
  have hu27 := Tryz.underlying27
  have hu63 := Tryz.underlying63
  have HL := Lib.hid hl
  have HR := Lib.hid hr
  have HA := Lib.hid ha
  clear hl hr ha
  go_enter Tryz.func13, Tryz.ntmps13
  go_wp2_with fail
  have hb := Lib.hid ((Below.refl _ w).alloc (Nat.le_refl _) (.cells #[.int .i64 3, .int .i64 a1_1, .int .i64 a1_2] 27))
  have k0_0 : (w.alloc (.cells #[.int .i64 3, .int .i64 a1_1, .int .i64 a1_2] 27)).cell? ⟨w.heap.size, 0, none⟩ = some (.int .i64 3) := by simp [go_sem]
  have k0_1 : (w.alloc (.cells #[.int .i64 3, .int .i64 a1_1, .int .i64 a1_2] 27)).cell? ⟨w.heap.size, 1, none⟩ = some (.int .i64 a1_1) := by simp [go_sem]
  have k0_2 : (w.alloc (.cells #[.int .i64 3, .int .i64 a1_1, .int .i64 a1_2] 27)).cell? ⟨w.heap.size, 2, none⟩ = some (.int .i64 a1_2) := by simp [go_sem]
  have lt0 : w.heap.size < (w.alloc (.cells #[.int .i64 3, .int .i64 a1_1, .int .i64 a1_2] 27)).heap.size := by simp only [World.size_alloc]; omega
  generalize w.alloc (.cells #[.int .i64 3, .int .i64 a1_1, .int .i64 a1_2] 27) = W at *
  clear lt0
  refine (ContainsFunc_Type (some ad) c0 l0 _ (Kd.C_below HR.out hb.out) HL.out).mono ?_
  rintro e W2 ⟨rfl, hb1⟩
  rw [HA.out]
  replace k0_0 := pw_cell_below hb1 k0_0
  replace k0_1 := pw_cell_below hb1 k0_1
  replace k0_2 := pw_cell_below hb1 k0_2
  have hB := Lib.hid (below_then hb.out hb.out.size hb1)
  clear hb hb1
  have y0 := pw_cell_below hB.out Y0.out
  have y1 := pw_cell_below hB.out Y1.out
  have y2 := pw_cell_below hB.out Y2.out
  go_wp2
  generalize rd_T63 l0 a1_1 = t at *
  replace k0_0 := cell_regrown k0_0
  replace k0_1 := cell_regrown k0_1
  replace k0_2 := cell_regrown k0_2
  replace y0 := cell_regrown y0
  replace y1 := cell_regrown y1
  replace y2 := cell_regrown y2
  have z1 := partition_kinds.at3
  have z2 := partition_kinds.fld3_0
  refine wp_region_quiet_below (by kernel_rfl) (by kernel_rfl) ?_
  repeat (first | go_big_quiet_step (first | exact Calls.regrown_of (partition_kinds.tab _) | exact Calls.regrown_of (HF.out _)) | quiet_step (first | exact Calls.regrown_of (partition_kinds.tab _) | exact Calls.regrown_of (HF.out _)))
  refine wpQuiet_nil ?_
  intro _ hw'
  obtain ⟨⟨dq, osq⟩, hw''⟩ := hw'
  subst hw''
  have hD := Lib.hid (below_regrown W2 dq osq)
  go_wp2
  go_ret
  exact ⟨rfl, below_then hB.out hB.out.size hD.out⟩
theorem partition_Valid.calls (A0 : Option Addr) (c0 : Nat) (l0 : List S63) (a1_0 a1_1 a1_2 : Int) (r : Bool) (w : World) (hr : Kd.C k63 w A0 l0.length l0) (hc : l0.length ≤ c0) (h : partition_Valid.f l0 a1_0 a1_1 a1_2 = some r) :
    Calls Tryz.prog 13 #[.slice A0 l0.length c0, .agg #[.int .i64 a1_0, .int .i64 a1_1, .int .i64 a1_2]] w fun e w' => e = .returned (.bool r) ∧ Below w.heap.size w w' := by
  unfold partition_Valid.f at h
  by_cases hl : l0.length ≤ 9223372036854775807
  case neg => rw [if_neg hl] at h; exact absurd h (by simp)
  rw [if_pos hl] at h
  cases ha : l0.any badType with
  | true =>
    rw [ha, if_pos rfl] at h
    obtain rfl := Option.some.inj h
    exact partition_Valid.bad A0 c0 l0 _ _ _ w hr hl ha
  | false =>
    rw [ha, if_neg (by decide)] at h
    by_cases h0 : a1_0 = 0
    · subst h0
      rw [if_pos rfl] at h
      obtain rfl := Option.some.inj h
      exact partition_Valid.zero A0 c0 l0 _ _ w hr hl ha
    rw [if_neg h0] at h
    have b0 : (a1_0 == 0) = false := by simpa using h0
    by_cases h1 : 0 < a1_0
    · by_cases h2 : a1_0 < 4
      · by_cases h3 : 0 ≤ a1_1
        · by_cases h4 : a1_1 < (l0.length : Int)
          · rw [if_pos ⟨h1, h2, h3, h4⟩] at h
            unfold partition_Valid.kind at h
            by_cases k1 : a1_0 = 1
            · subst k1
              rw [if_pos rfl] at h
              exact partition_Valid.case1 A0 c0 l0 _ _ w hr hl ha (decide_eq_true h3) (decide_eq_true h4) h3 h4 r (fun w => partition_kinds_1.calls _ _ _ _ _ w h)
            rw [if_neg k1] at h
            by_cases k2 : a1_0 = 2
            · subst k2
              rw [if_pos rfl] at h
              exact partition_Valid.case2 A0 c0 l0 _ _ w hr hl ha (decide_eq_true h3) (decide_eq_true h4) h3 h4 r (fun w => partition_kinds_2.calls _ _ _ _ _ w h)
            rw [if_neg k2] at h
            obtain rfl : a1_0 = 3 := by omega
            exact partition_Valid.case3 A0 c0 l0 _ _ w hr hl ha (decide_eq_true h3) (decide_eq_true h4) h3 h4 r (fun w => partition_truncates.calls _ _ _ _ _ w h)
          · rw [if_neg (fun z => h4 z.2.2.2)] at h
            obtain rfl := Option.some.inj h
            exact partition_Valid.high A0 c0 l0 _ _ _ w hr hl ha b0 (decide_eq_true h1) (decide_eq_true h2) (decide_eq_true h3) (decide_eq_false h4)
        · rw [if_neg (fun z => h3 z.2.2.1)] at h
          obtain rfl := Option.some.inj h
          exact partition_Valid.low A0 c0 l0 _ _ _ w hr hl ha b0 (decide_eq_true h1) (decide_eq_true h2) (decide_eq_false h3)
      · rw [if_neg (fun z => h2 z.2.1)] at h
        obtain rfl := Option.some.inj h
        exact partition_Valid.big A0 c0 l0 _ _ _ w hr hl ha b0 (decide_eq_true h1) (decide_eq_false h2)
    · rw [if_neg (fun z => h1 z.1)] at h
      obtain rfl := Option.some.inj h
      exact partition_Valid.neg A0 c0 l0 _ _ _ w hr hl ha b0 (decide_eq_false h1)
end Go.Proofs.YteflfnjljjianaaGreatDoor.Qx
namespace Go.Proofs.YteflfnjljjianaaGreatDoor.Qx
open Go.RowKit Go.Proofs.YteflfnjljjianaaGreatDoorW.PrintWords Go.Proofs.YteflfnjljjianaaGreatDoorW.PrintLast Go.Proofs.YteflfnjljjianaaGreatDoorW.PrintMore
attribute [local go_sem] max2_int min2_int max_two min_two
set_option linter.unusedVariables false
set_option linter.unusedSimpArgs false
def chapmanref06_sign.f (a0 : Int) (a1 : Int) : Option (Int) := if a0 < a1 then (some (-1)) else (if a0 > a1 then (some 1) else (some 0))
set_option maxHeartbeats 8000000 in
set_option maxRecDepth 100000 in
theorem chapmanref06_sign.calls (a0 : Int) (a1 : Int) (r : Int) (w : World) (h : chapmanref06_sign.f a0 a1 = some r) :
    Calls Tryz.prog 66 #[.int .i64 a0, .int .i64 a1] w fun e w' => e = .returned (.int .i64 r) ∧ Drawn0 w w' := by
  have H : (if a0 < a1 then (some (-1)) else (if a0 > a1 then (some 1) else (some 0))) = some r := h
  clear h
  by_cases c3 : a0 < a1
  · rw [if_pos c3] at H
    have c3b0 : decide (a0 < a1) = true := decide_eq_true c3
    clear c3
    obtain rfl := Option.some.inj H
    go_enter Tryz.func66, Tryz.ntmps66
    go_wp2
    go_ret
    exact ⟨by first | rfl | (simp; done) | (simp [*]; done), by repeat (first | exact Drawn0.refl _ | apply Drawn0.step)⟩
  · rw [if_neg c3] at H
    have c3b0 : decide (a0 < a1) = false := decide_eq_false c3
    clear c3
    by_cases c4 : a0 > a1
    · rw [if_pos c4] at H
      have c4b0 : decide (a1 < a0) = true := decide_eq_true c4
      clear c4
      obtain rfl := Option.some.inj H
      go_enter Tryz.func66, Tryz.ntmps66
      go_wp2
      go_ret
      exact ⟨by first | rfl | (simp; done) | (simp [*]; done), by repeat (first | exact Drawn0.refl _ | apply Drawn0.step)⟩
    · rw [if_neg c4] at H
      have c4b0 : decide (a1 < a0) = false := decide_eq_false c4
      clear c4
      obtain rfl := Option.some.inj H
      go_enter Tryz.func66, Tryz.ntmps66
      go_wp2
      go_ret
      exact ⟨by first | rfl | (simp; done) | (simp [*]; done), by repeat (first | exact Drawn0.refl _ | apply Drawn0.step)⟩
end Go.Proofs.YteflfnjljjianaaGreatDoor.Qx
namespace Go.Proofs.YteflfnjljjianaaGreatDoor.Qx
open Go.RowKit Go.Proofs.YteflfnjljjianaaGreatDoorW.PrintWords Go.Proofs.YteflfnjljjianaaGreatDoorW.PrintLast Go.Proofs.YteflfnjljjianaaGreatDoorW.PrintMore
attribute [local go_sem] max2_int min2_int max_two min_two
set_option linter.unusedVariables false
set_option linter.unusedSimpArgs false
mutual
def chapmanref06_Strings.l0 : Nat → ByteArray → ByteArray → Int → Option (Int)
  | 0, _, _, _ => none
  | k + 1, x0, x1, x5 => if x5 < (x0.size : Int) then (chapmanref06_Strings.j1 k x0 x1 x5 (decide (x5 < (x1.size : Int)))) else (chapmanref06_Strings.j1 k x0 x1 x5 false)
def chapmanref06_Strings.j1 : Nat → ByteArray → ByteArray → Int → Bool → Option (Int)
  | 0, _, _, _, _ => none
  | k + 1, x0, x1, x5, x15 => if x15 = true then (if 0 ≤ x5 then (if x5 < (x0.size : Int) then (if x5 < (x1.size : Int) then (if (bt x0 x5) = (bt x1 x5) then (chapmanref06_Strings.l0 k x0 x1 (wrap64 (x5 + 1))) else ((chapmanref06_sign.f (wrap64 (bt x0 x5)) (wrap64 (bt x1 x5))).bind fun t101 => (some t101))) else (none)) else (none)) else (none)) else ((chapmanref06_sign.f (x0.size : Int) (x1.size : Int)).bind fun t102 => (some t102))
end
def chapmanref06_Strings.f (k : Nat) (a0 : ByteArray) (a1 : ByteArray) : Option (Int) := chapmanref06_Strings.l0 k a0 a1 0
set_option maxHeartbeats 8000000 in
set_option maxRecDepth 100000 in
theorem chapmanref06_Strings.calls (k : Nat) (a0 : ByteArray) (a1 : ByteArray) (r : Int) (w : World) (h : chapmanref06_Strings.f k a0 a1 = some r) :
    Calls Tryz.prog 67 #[.string a0, .string a1] w fun e w' => e = .returned (.int .i64 r) ∧ Drawn0 w w' := by
  have H : (chapmanref06_Strings.l0 k a0 a1 0) = some r := h
  clear h
  have H' := Aside0.mk H
  clear H
  go_enter Tryz.func67, Tryz.ntmps67
  go_wp2
  repeat (go_quiet (fail); try go_wp2)
  go_loopg [5] k (fun kq v5 w' => ∃ (x5_1 : Int), v5 = .int .i64 x5_1 ∧ Aside0 (chapmanref06_Strings.l0 kq a0 a1 x5_1 = some r) ∧ Aside0 (kq ≤ k) ∧ Drawn0 w w')
  case atStart => exact ⟨(0), (by first | rfl | (simp; done) | (simp [*]; done)), H', ⟨Nat.le_refl _⟩, by repeat (first | exact Drawn0.refl _ | apply Drawn0.step)⟩
  case round =>
    clear H'
    try clear p2
    obtain ⟨x5_1, rfl, HA, HK1, ⟨m1, rfl⟩⟩ := hrel
    cases gk with
    | zero => exact absurd HA.out (by simp [chapmanref06_Strings.l0])
    | succ k1 =>
      have H := HA.out
      clear HA
      simp only [chapmanref06_Strings.l0] at H
      have HC3 := Aside0.mk H
      clear H
      go_upto_region 2 with (fail)
      repeat (go_quiet (fail); go_upto_region 2 with (fail))
      go_cut [15] (fun v15 wc => ∃ (kq : Nat) (x15_2 : Bool), v15 = .bool x15_2 ∧ Aside0 (chapmanref06_Strings.j1 kq a0 a1 x5_1 x15_2 = some r) ∧ Aside0 (kq ≤ k1) ∧ Drawn0 w wc)
      case first =>
        have H := HC3.out
        clear HC3
        by_cases c4 : x5_1 < (a0.size : Int)
        · rw [if_pos c4] at H
          have c4b0 : decide (x5_1 < (a0.size : Int)) = true := decide_eq_true c4
          clear c4
          (first | rw [c4b0] | (simp only [i64_w, i32_w]; rw [c4b0]) | skip)
          have H' := Aside0.mk H
          clear H
          go_wp2
          repeat (go_quiet (fail); try go_wp2)
          go_meet
          case rel => exact ⟨_, (decide (x5_1 < (a1.size : Int))), (by first | rfl | (simp; done) | (simp [*]; done)), H', ⟨by have := HK1.out; first | omega | exact Nat.le_refl _⟩, by repeat (first | exact Drawn0.refl _ | apply Drawn0.step)⟩
        · rw [if_neg c4] at H
          have c4b0 : decide (x5_1 < (a0.size : Int)) = false := decide_eq_false c4
          clear c4
          (first | rw [c4b0] | (simp only [i64_w, i32_w]; rw [c4b0]) | skip)
          have H' := Aside0.mk H
          clear H
          go_wp2
          repeat (go_quiet (fail); try go_wp2)
          go_meet
          case rel => exact ⟨_, (false), (by first | rfl | (simp; done) | (simp [*]; done)), H', ⟨by have := HK1.out; first | omega | exact Nat.le_refl _⟩, by repeat (first | exact Drawn0.refl _ | apply Drawn0.step)⟩
      case rest =>
        clear HC3
        try clear p2
        try clear c4
        try clear c4b0
        try clear p2
        obtain ⟨kq, x15_2, rfl, HA, HJ2, ⟨mc2, rfl⟩⟩ := hcut
        cases kq with
        | zero => exact absurd HA.out (by simp [chapmanref06_Strings.j1])
        | succ kj2 =>
          have H := HA.out
          clear HA
          simp only [chapmanref06_Strings.j1] at H
          by_cases c5 : x15_2 = true
          · subst c5
            have H1 : (if 0 ≤ x5_1 then (if x5_1 < (a0.size : Int) then (if x5_1 < (a1.size : Int) then (if (bt a0 x5_1) = (bt a1 x5_1) then (chapmanref06_Strings.l0 kj2 a0 a1 (wrap64 (x5_1 + 1))) else ((chapmanref06_sign.f (wrap64 (bt a0 x5_1)) (wrap64 (bt a1 x5_1))).bind fun t101 => (some t101))) else (none)) else (none)) else (none)) = some r := by rw [if_pos rfl] at H; exact H
            clear H
            have H := H1
            clear H1
            by_cases c6 : 0 ≤ x5_1
            · rw [if_pos c6] at H
              have c6b0 : decide (0 ≤ x5_1) = true := decide_eq_true c6
              clear c6
              by_cases c7 : x5_1 < (a0.size : Int)
              · rw [if_pos c7] at H
                have c7b0 : decide (x5_1 < (a0.size : Int)) = true := decide_eq_true c7
                clear c7
                by_cases c9 : x5_1 < (a1.size : Int)
                · rw [if_pos c9] at H
                  have c9b0 : decide (x5_1 < (a1.size : Int)) = true := decide_eq_true c9
                  clear c9
                  by_cases c11 : (bt a0 x5_1) = (bt a1 x5_1)
                  · rw [if_pos c11] at H
                    have c11b0 : ((bt a0 x5_1) == (bt a1 x5_1)) = true := beq_iff_eq.mpr c11
                    have c11b1 : ((bt a0 x5_1) != (bt a1 x5_1)) = false := bne_eq_false_iff_eq.mpr c11
                    clear c11
                    have H' := Aside0.mk H
                    clear H
                    have p8 : 0 ≤ (x5_1 : Int) := of_decide_eq_true (by first | (with_reducible assumption) | assumption)
                    have q8 : x5_1 < (a0.size : Int) := of_decide_eq_true (by first | (with_reducible assumption) | assumption)
                    have hx8 := bt_at a0 x5_1
                    replace p8 := eq_true p8
                    replace q8 := eq_true q8
                    have p10 : 0 ≤ (x5_1 : Int) := of_decide_eq_true (by first | (with_reducible assumption) | assumption)
                    have q10 : x5_1 < (a1.size : Int) := of_decide_eq_true (by first | (with_reducible assumption) | assumption)
                    have hx10 := bt_at a1 x5_1
                    replace p10 := eq_true p10
                    replace q10 := eq_true q10
                    go_wp2
                    repeat (go_quiet (fail); try go_wp2)
                    go_roundg kj2
                    case measure => have := HK1.out; have := HJ2.out; omega
                    case rel => exact ⟨(wrap64 (x5_1 + 1)), (by first | rfl | (simp; done) | (simp [*]; done)), H', ⟨by have := HK1.out; have := HJ2.out; omega⟩, by repeat (first | exact Drawn0.refl _ | apply Drawn0.step)⟩
                  · rw [if_neg c11] at H
                    have c11b0 : ((bt a0 x5_1) == (bt a1 x5_1)) = false := beq_eq_false_iff_ne.mpr c11
                    have c11b1 : ((bt a0 x5_1) != (bt a1 x5_1)) = true := bne_iff_ne.mpr c11
                    replace H := Option.bind_eq_some_iff.mp H
                    obtain ⟨t101, A140, H⟩ := H
                    replace H : (some t101) = some r := H
                    have A14 := Aside0.mk A140
                    clear A140
                    obtain rfl := Option.some.inj H
                    have p8 : 0 ≤ (x5_1 : Int) := of_decide_eq_true (by first | (with_reducible assumption) | assumption)
                    have q8 : x5_1 < (a0.size : Int) := of_decide_eq_true (by first | (with_reducible assumption) | assumption)
                    have hx8 := bt_at a0 x5_1
                    replace p8 := eq_true p8
                    replace q8 := eq_true q8
                    have p10 : 0 ≤ (x5_1 : Int) := of_decide_eq_true (by first | (with_reducible assumption) | assumption)
                    have q10 : x5_1 < (a1.size : Int) := of_decide_eq_true (by first | (with_reducible assumption) | assumption)
                    have hx10 := bt_at a1 x5_1
                    replace p10 := eq_true p10
                    replace q10 := eq_true q10
                    have p12 : 0 ≤ (x5_1 : Int) := of_decide_eq_true (by first | (with_reducible assumption) | assumption)
                    have q12 : x5_1 < (a0.size : Int) := of_decide_eq_true (by first | (with_reducible assumption) | assumption)
                    have hx12 := bt_at a0 x5_1
                    replace p12 := eq_true p12
                    replace q12 := eq_true q12
                    have p13 : 0 ≤ (x5_1 : Int) := of_decide_eq_true (by first | (with_reducible assumption) | assumption)
                    have q13 : x5_1 < (a1.size : Int) := of_decide_eq_true (by first | (with_reducible assumption) | assumption)
                    have hx13 := bt_at a1 x5_1
                    replace p13 := eq_true p13
                    replace q13 := eq_true q13
                    go_wp2_with (first | (go_at_call 66; (with_reducible refine (chapmanref06_sign.calls (wrap64 (bt a0 x5_1)) (wrap64 (bt a1 x5_1)) t101 _ A14.out).mono ?_); rintro e w' ⟨rfl, ⟨nd, rfl⟩⟩; (try first | exact ⟨rfl, _, World.drewN_drewN _ _ _⟩ | exact ⟨rfl, _, Eq.trans (World.drewN_drewN _ _ _) (congrArg (World.drewN _) (Nat.add_assoc _ _ _))⟩)))
                    repeat (go_quiet (first | (go_at_call 66; (with_reducible refine (chapmanref06_sign.calls (wrap64 (bt a0 x5_1)) (wrap64 (bt a1 x5_1)) t101 _ A14.out).mono ?_); rintro e w' ⟨rfl, ⟨nd, rfl⟩⟩; (try first | exact ⟨rfl, _, World.drewN_drewN _ _ _⟩ | exact ⟨rfl, _, Eq.trans (World.drewN_drewN _ _ _) (congrArg (World.drewN _) (Nat.add_assoc _ _ _))⟩))); try go_wp2_with (first | (go_at_call 66; (with_reducible refine (chapmanref06_sign.calls (wrap64 (bt a0 x5_1)) (wrap64 (bt a1 x5_1)) t101 _ A14.out).mono ?_); rintro e w' ⟨rfl, ⟨nd, rfl⟩⟩; (try first | exact ⟨rfl, _, World.drewN_drewN _ _ _⟩ | exact ⟨rfl, _, Eq.trans (World.drewN_drewN _ _ _) (congrArg (World.drewN _) (Nat.add_assoc _ _ _))⟩))))
                    go_ret
                    exact ⟨by first | rfl | (simp; done) | (simp [*]; done), by repeat (first | exact Drawn0.refl _ | apply Drawn0.step)⟩
                · rw [if_neg c9] at H
                  exact absurd H (by simp)
              · rw [if_neg c7] at H
                exact absurd H (by simp)
            · rw [if_neg c6] at H
              exact absurd H (by simp)
          · replace c5 := Bool.eq_false_iff.mpr c5
            subst c5
            have H1 : ((chapmanref06_sign.f (a0.size : Int) (a1.size : Int)).bind fun t102 => (some t102)) = some r := by rw [if_neg (show ¬ (false = true) by decide)] at H; exact H
            clear H
            have H := H1
            clear H1
            replace H := Option.bind_eq_some_iff.mp H
            obtain ⟨t102, A150, H⟩ := H
            replace H : (some t102) = some r := H
            have A15 := Aside0.mk A150
            clear A150
            obtain rfl := Option.some.inj H
            go_wp2_with (first | (go_at_call 66; (with_reducible refine (chapmanref06_sign.calls (a0.size : Int) (a1.size : Int) t102 _ A15.out).mono ?_); rintro e w' ⟨rfl, ⟨nd, rfl⟩⟩; (try first | exact ⟨rfl, _, World.drewN_drewN _ _ _⟩ | exact ⟨rfl, _, Eq.trans (World.drewN_drewN _ _ _) (congrArg (World.drewN _) (Nat.add_assoc _ _ _))⟩)))
            repeat (go_quiet (first | (go_at_call 66; (with_reducible refine (chapmanref06_sign.calls (a0.size : Int) (a1.size : Int) t102 _ A15.out).mono ?_); rintro e w' ⟨rfl, ⟨nd, rfl⟩⟩; (try first | exact ⟨rfl, _, World.drewN_drewN _ _ _⟩ | exact ⟨rfl, _, Eq.trans (World.drewN_drewN _ _ _) (congrArg (World.drewN _) (Nat.add_assoc _ _ _))⟩))); try go_wp2_with (first | (go_at_call 66; (with_reducible refine (chapmanref06_sign.calls (a0.size : Int) (a1.size : Int) t102 _ A15.out).mono ?_); rintro e w' ⟨rfl, ⟨nd, rfl⟩⟩; (try first | exact ⟨rfl, _, World.drewN_drewN _ _ _⟩ | exact ⟨rfl, _, Eq.trans (World.drewN_drewN _ _ _) (congrArg (World.drewN _) (Nat.add_assoc _ _ _))⟩))))
            go_ret
            exact ⟨by first | rfl | (simp; done) | (simp [*]; done), by repeat (first | exact Drawn0.refl _ | apply Drawn0.step)⟩
end Go.Proofs.YteflfnjljjianaaGreatDoor.Qx
namespace Go.Proofs.YteflfnjljjianaaGreatDoor.Qx
open Go.RowKit Go.Proofs.YteflfnjljjianaaGreatDoorW.PrintWords Go.Proofs.YteflfnjljjianaaGreatDoorW.PrintLast Go.Proofs.YteflfnjljjianaaGreatDoorW.PrintMore
attribute [local go_sem] max2_int min2_int max_two min_two
set_option linter.unusedVariables false
set_option linter.unusedSimpArgs false
def chapmanref06_Cmp.f (k : Nat) (a0_0 : Int) (a0_1 : Int) (a0_2 : ByteArray) (a1_0 : Int) (a1_1 : Int) (a1_2 : ByteArray) : Option (Int) := if a0_0 = a1_0 then (if a0_1 = a1_1 then ((chapmanref06_Strings.f k a0_2 a1_2).bind fun t104 => (some t104)) else ((chapmanref06_sign.f a0_1 a1_1).bind fun t105 => (some t105))) else ((chapmanref06_sign.f a0_0 a1_0).bind fun t103 => (some t103))
set_option maxHeartbeats 8000000 in
set_option maxRecDepth 100000 in
theorem chapmanref06_Cmp.calls (k : Nat) (a0_0 : Int) (a0_1 : Int) (a0_2 : ByteArray) (a1_0 : Int) (a1_1 : Int) (a1_2 : ByteArray) (r : Int) (w : World) (h : chapmanref06_Cmp.f k a0_0 a0_1 a0_2 a1_0 a1_1 a1_2 = some r) :
    Calls Tryz.prog 33 #[.agg #[.int .i64 a0_0, .int .i64 a0_1, .string a0_2], .agg #[.int .i64 a1_0, .int .i64 a1_1, .string a1_2]] w fun e w' => e = .returned (.int .i64 r) ∧ Below w.heap.size w w' := by
  have hu35 := Tryz.underlying35
  have HB := Aside0.mk (Below.refl w.heap.size w)
  have H : (if a0_0 = a1_0 then (if a0_1 = a1_1 then ((chapmanref06_Strings.f k a0_2 a1_2).bind fun t104 => (some t104)) else ((chapmanref06_sign.f a0_1 a1_1).bind fun t105 => (some t105))) else ((chapmanref06_sign.f a0_0 a1_0).bind fun t103 => (some t103))) = some r := h
  clear h
  by_cases c3 : a0_0 = a1_0
  · rw [if_pos c3] at H
    have c3b0 : (a0_0 == a1_0) = true := beq_iff_eq.mpr c3
    have c3b1 : (a0_0 != a1_0) = false := bne_eq_false_iff_eq.mpr c3
    clear c3
    by_cases c4 : a0_1 = a1_1
    · rw [if_pos c4] at H
      have c4b0 : (a0_1 == a1_1) = true := beq_iff_eq.mpr c4
      have c4b1 : (a0_1 != a1_1) = false := bne_eq_false_iff_eq.mpr c4
      clear c4
      replace H := Option.bind_eq_some_iff.mp H
      obtain ⟨t104, A50, H⟩ := H
      replace H : (some t104) = some r := H
      have A5 := Aside0.mk A50
      clear A50
      obtain rfl := Option.some.inj H
      go_enter Tryz.func33, Tryz.ntmps33
      go_wp2_with (first | ((with_reducible refine gate_dst (N := 2) rfl ?_); refine box_event ?hg (N := 2) ?hd (cs := #[.int .i64 a0_0, .int .i64 a0_1, .string a0_2]) (t := 35) ?hr ?_; (case hd => rfl); (case hg => rfl); (case hr => first | (go_simp; done) | (go_simp; rfl)); intro gb101 hg w6 hbox hb; have n0_ := Aside0.mk (below_step (by repeat (first | (with_reducible first | exact HB.out | apply below_alloc | apply pw_below_drewN | apply below_drew1) | exact HB.out)) hb); have n1_ := Aside0.mk (hbox); have n2_ := Aside0.mk ((by rw [hg]; exact (below_size (by repeat (first | (with_reducible first | exact HB.out | apply below_alloc | apply pw_below_drewN | apply below_drew1) | exact HB.out))) : w.heap.size ≤ gb101)); have n3_ := Aside0.mk ((by rw [hg]; exact (below_size (by repeat (first | (with_reducible first | exact HB.out | apply below_alloc | apply pw_below_drewN | apply below_drew1) | exact HB.out))) : w.heap.size ≤ gb101)); clear HB; have HB := n0_; have BK101 := n1_; have GW101 := n2_; have GE101 := n3_; clear n0_ n1_ n2_ n3_; clear hb hbox hg) | ((with_reducible refine gate_dst (N := 3) rfl ?_); refine box_event ?hg (N := 3) ?hd (cs := #[.int .i64 a1_0, .int .i64 a1_1, .string a1_2]) (t := 35) ?hr ?_; (case hd => rfl); (case hg => rfl); (case hr => first | (go_simp; done) | (go_simp; rfl)); intro gb102 hg w7 hbox hb; have n0_ := Aside0.mk (blk_below (g := gb101) (o := .cells #[.int .i64 a0_0, .int .i64 a0_1, .string a0_2] 35 (0, 0)) (by (with_reducible repeat (first | refine blk_drewN ?_ _ | refine blk_drew ?_ | refine blk_alloc ?_ _)); exact BK101.out) hb); have n1_ := Aside0.mk (below_step (by repeat (first | (with_reducible first | exact HB.out | apply below_alloc | apply pw_below_drewN | apply below_drew1 | refine below_set ?_ GE101.out) | exact HB.out)) hb); have n2_ := Aside0.mk (hbox); have n3_ := Aside0.mk ((by rw [hg]; exact (below_size (by repeat (first | (with_reducible first | exact HB.out | apply below_alloc | apply pw_below_drewN | apply below_drew1 | refine below_set ?_ GE101.out) | exact HB.out))) : w.heap.size ≤ gb102)); have n4_ := Aside0.mk ((by rw [hg]; exact (below_size (by repeat (first | (with_reducible first | exact HB.out | apply below_alloc | apply pw_below_drewN | apply below_drew1 | refine below_set ?_ GE101.out) | exact HB.out))) : w.heap.size ≤ gb102)); have n5_ := Aside0.mk ((by rw [hg]; exact Nat.ne_of_lt (blk_lt (g := gb101) (o := .cells #[.int .i64 a0_0, .int .i64 a0_1, .string a0_2] 35 (0, 0)) (by (with_reducible repeat (first | refine blk_drewN ?_ _ | refine blk_drew ?_ | refine blk_alloc ?_ _)); exact BK101.out)) : gb101 ≠ gb102)); have n6_ := Aside0.mk ((by rw [hg]; exact Nat.ne_of_gt (blk_lt (g := gb101) (o := .cells #[.int .i64 a0_0, .int .i64 a0_1, .string a0_2] 35 (0, 0)) (by (with_reducible repeat (first | refine blk_drewN ?_ _ | refine blk_drew ?_ | refine blk_alloc ?_ _)); exact BK101.out)) : gb102 ≠ gb101)); clear BK101; clear HB; have BK101 := n0_; have HB := n1_; have BK102 := n2_; have GW102 := n3_; have GE102 := n4_; have NB101_102 := n5_; have NB102_101 := n6_; clear n0_ n1_ n2_ n3_ n4_ n5_ n6_; clear hb hbox hg; have hnb8 := NB101_102.out; have hnc8 := NB102_101.out; have hcz9_0 : w7.cell? ⟨gb101, 0, none⟩ = some (.int .i64 a0_0) := (blk_cell BK101.out 0).trans rfl; have hcz9_1 : w7.cell? ⟨gb101, 1, none⟩ = some (.int .i64 a0_1) := (blk_cell BK101.out 1).trans rfl; have hcz9_2 : w7.cell? ⟨gb101, 2, none⟩ = some (.string a0_2) := (blk_cell BK101.out 2).trans rfl; have hfz9_0 := blk_frozen BK101.out 0; have hfz9_1 := blk_frozen BK101.out 1; have hfz9_2 := blk_frozen BK101.out 2; have hcz10_0 : w7.cell? ⟨gb102, 0, none⟩ = some (.int .i64 a1_0) := (blk_cell BK102.out 0).trans rfl; have hcz10_1 : w7.cell? ⟨gb102, 1, none⟩ = some (.int .i64 a1_1) := (blk_cell BK102.out 1).trans rfl; have hcz10_2 : w7.cell? ⟨gb102, 2, none⟩ = some (.string a1_2) := (blk_cell BK102.out 2).trans rfl; have hfz10_0 := blk_frozen BK102.out 0; have hfz10_1 := blk_frozen BK102.out 1; have hfz10_2 := blk_frozen BK102.out 2) | ((with_reducible refine gate_callee (f := 67) rfl ?_); refine goesL_ (some 29) rfl rfl Tryz.func67 (by kernel_rfl) rfl #[.string a0_2, .string a1_2] rfl (by (try simp only [List.map_toArray, List.map_cons, List.map_nil]); first | done | rfl | (simp only [List.length_drop, List.length_take]; rfl)) ?_; (with_reducible refine (chapmanref06_Strings.calls k a0_2 a1_2 t104 _ A5.out).mono ?_); rintro e w' ⟨rfl, ⟨nd, rfl⟩⟩; refine ⟨_, rfl, ?_⟩))
      go_ret
      exact ⟨by first | rfl | (simp [errW_none, errW_some] <;> rfl) | (simp [*, errW_none, errW_some] <;> rfl), by repeat (first | (with_reducible first | exact HB.out | apply below_alloc | apply pw_below_drewN | apply below_drew1 | refine below_set ?_ GE101.out | refine below_set ?_ GE102.out) | exact HB.out)⟩
    · rw [if_neg c4] at H
      have c4b0 : (a0_1 == a1_1) = false := beq_eq_false_iff_ne.mpr c4
      have c4b1 : (a0_1 != a1_1) = true := bne_iff_ne.mpr c4
      replace H := Option.bind_eq_some_iff.mp H
      obtain ⟨t105, A110, H⟩ := H
      replace H : (some t105) = some r := H
      have A11 := Aside0.mk A110
      clear A110
      obtain rfl := Option.some.inj H
      go_enter Tryz.func33, Tryz.ntmps33
      go_wp2_with (first | ((with_reducible refine gate_dst (N := 2) rfl ?_); refine box_event ?hg (N := 2) ?hd (cs := #[.int .i64 a0_0, .int .i64 a0_1, .string a0_2]) (t := 35) ?hr ?_; (case hd => rfl); (case hg => rfl); (case hr => first | (go_simp; done) | (go_simp; rfl)); intro gb101 hg w12 hbox hb; have n0_ := Aside0.mk (below_step (by repeat (first | (with_reducible first | exact HB.out | apply below_alloc | apply pw_below_drewN | apply below_drew1) | exact HB.out)) hb); have n1_ := Aside0.mk (hbox); have n2_ := Aside0.mk ((by rw [hg]; exact (below_size (by repeat (first | (with_reducible first | exact HB.out | apply below_alloc | apply pw_below_drewN | apply below_drew1) | exact HB.out))) : w.heap.size ≤ gb101)); have n3_ := Aside0.mk ((by rw [hg]; exact (below_size (by repeat (first | (with_reducible first | exact HB.out | apply below_alloc | apply pw_below_drewN | apply below_drew1) | exact HB.out))) : w.heap.size ≤ gb101)); clear HB; have HB := n0_; have BK101 := n1_; have GW101 := n2_; have GE101 := n3_; clear n0_ n1_ n2_ n3_; clear hb hbox hg) | ((with_reducible refine gate_dst (N := 3) rfl ?_); refine box_event ?hg (N := 3) ?hd (cs := #[.int .i64 a1_0, .int .i64 a1_1, .string a1_2]) (t := 35) ?hr ?_; (case hd => rfl); (case hg => rfl); (case hr => first | (go_simp; done) | (go_simp; rfl)); intro gb102 hg w13 hbox hb; have n0_ := Aside0.mk (blk_below (g := gb101) (o := .cells #[.int .i64 a0_0, .int .i64 a0_1, .string a0_2] 35 (0, 0)) (by (with_reducible repeat (first | refine blk_drewN ?_ _ | refine blk_drew ?_ | refine blk_alloc ?_ _)); exact BK101.out) hb); have n1_ := Aside0.mk (below_step (by repeat (first | (with_reducible first | exact HB.out | apply below_alloc | apply pw_below_drewN | apply below_drew1 | refine below_set ?_ GE101.out) | exact HB.out)) hb); have n2_ := Aside0.mk (hbox); have n3_ := Aside0.mk ((by rw [hg]; exact (below_size (by repeat (first | (with_reducible first | exact HB.out | apply below_alloc | apply pw_below_drewN | apply below_drew1 | refine below_set ?_ GE101.out) | exact HB.out))) : w.heap.size ≤ gb102)); have n4_ := Aside0.mk ((by rw [hg]; exact (below_size (by repeat (first | (with_reducible first | exact HB.out | apply below_alloc | apply pw_below_drewN | apply below_drew1 | refine below_set ?_ GE101.out) | exact HB.out))) : w.heap.size ≤ gb102)); have n5_ := Aside0.mk ((by rw [hg]; exact Nat.ne_of_lt (blk_lt (g := gb101) (o := .cells #[.int .i64 a0_0, .int .i64 a0_1, .string a0_2] 35 (0, 0)) (by (with_reducible repeat (first | refine blk_drewN ?_ _ | refine blk_drew ?_ | refine blk_alloc ?_ _)); exact BK101.out)) : gb101 ≠ gb102)); have n6_ := Aside0.mk ((by rw [hg]; exact Nat.ne_of_gt (blk_lt (g := gb101) (o := .cells #[.int .i64 a0_0, .int .i64 a0_1, .string a0_2] 35 (0, 0)) (by (with_reducible repeat (first | refine blk_drewN ?_ _ | refine blk_drew ?_ | refine blk_alloc ?_ _)); exact BK101.out)) : gb102 ≠ gb101)); clear BK101; clear HB; have BK101 := n0_; have HB := n1_; have BK102 := n2_; have GW102 := n3_; have GE102 := n4_; have NB101_102 := n5_; have NB102_101 := n6_; clear n0_ n1_ n2_ n3_ n4_ n5_ n6_; clear hb hbox hg; have hnb14 := NB101_102.out; have hnc14 := NB102_101.out; have hcz15_0 : w13.cell? ⟨gb101, 0, none⟩ = some (.int .i64 a0_0) := (blk_cell BK101.out 0).trans rfl; have hcz15_1 : w13.cell? ⟨gb101, 1, none⟩ = some (.int .i64 a0_1) := (blk_cell BK101.out 1).trans rfl; have hcz15_2 : w13.cell? ⟨gb101, 2, none⟩ = some (.string a0_2) := (blk_cell BK101.out 2).trans rfl; have hfz15_0 := blk_frozen BK101.out 0; have hfz15_1 := blk_frozen BK101.out 1; have hfz15_2 := blk_frozen BK101.out 2; have hcz16_0 : w13.cell? ⟨gb102, 0, none⟩ = some (.int .i64 a1_0) := (blk_cell BK102.out 0).trans rfl; have hcz16_1 : w13.cell? ⟨gb102, 1, none⟩ = some (.int .i64 a1_1) := (blk_cell BK102.out 1).trans rfl; have hcz16_2 : w13.cell? ⟨gb102, 2, none⟩ = some (.string a1_2) := (blk_cell BK102.out 2).trans rfl; have hfz16_0 := blk_frozen BK102.out 0; have hfz16_1 := blk_frozen BK102.out 1; have hfz16_2 := blk_frozen BK102.out 2) | ((with_reducible refine gate_callee (f := 66) rfl ?_); refine goesL_ (some 24) rfl rfl Tryz.func66 (by kernel_rfl) rfl #[.int .i64 a0_1, .int .i64 a1_1] rfl (by (try simp only [List.map_toArray, List.map_cons, List.map_nil]); first | done | rfl | (simp only [List.length_drop, List.length_take]; rfl)) ?_; (with_reducible refine (chapmanref06_sign.calls a0_1 a1_1 t105 _ A11.out).mono ?_); rintro e w' ⟨rfl, ⟨nd, rfl⟩⟩; refine ⟨_, rfl, ?_⟩))
      go_ret
      exact ⟨by first | rfl | (simp [errW_none, errW_some] <;> rfl) | (simp [*, errW_none, errW_some] <;> rfl), by repeat (first | (with_reducible first | exact HB.out | apply below_alloc | apply pw_below_drewN | apply below_drew1 | refine below_set ?_ GE101.out | refine below_set ?_ GE102.out) | exact HB.out)⟩
  · rw [if_neg c3] at H
    have c3b0 : (a0_0 == a1_0) = false := beq_eq_false_iff_ne.mpr c3
    have c3b1 : (a0_0 != a1_0) = true := bne_iff_ne.mpr c3
    replace H := Option.bind_eq_some_iff.mp H
    obtain ⟨t103, A170, H⟩ := H
    replace H : (some t103) = some r := H
    have A17 := Aside0.mk A170
    clear A170
    obtain rfl := Option.some.inj H
    go_enter Tryz.func33, Tryz.ntmps33
    go_wp2_with (first | ((with_reducible refine gate_dst (N := 2) rfl ?_); refine box_event ?hg (N := 2) ?hd (cs := #[.int .i64 a0_0, .int .i64 a0_1, .string a0_2]) (t := 35) ?hr ?_; (case hd => rfl); (case hg => rfl); (case hr => first | (go_simp; done) | (go_simp; rfl)); intro gb101 hg w18 hbox hb; have n0_ := Aside0.mk (below_step (by repeat (first | (with_reducible first | exact HB.out | apply below_alloc | apply pw_below_drewN | apply below_drew1) | exact HB.out)) hb); have n1_ := Aside0.mk (hbox); have n2_ := Aside0.mk ((by rw [hg]; exact (below_size (by repeat (first | (with_reducible first | exact HB.out | apply below_alloc | apply pw_below_drewN | apply below_drew1) | exact HB.out))) : w.heap.size ≤ gb101)); have n3_ := Aside0.mk ((by rw [hg]; exact (below_size (by repeat (first | (with_reducible first | exact HB.out | apply below_alloc | apply pw_below_drewN | apply below_drew1) | exact HB.out))) : w.heap.size ≤ gb101)); clear HB; have HB := n0_; have BK101 := n1_; have GW101 := n2_; have GE101 := n3_; clear n0_ n1_ n2_ n3_; clear hb hbox hg) | ((with_reducible refine gate_dst (N := 3) rfl ?_); refine box_event ?hg (N := 3) ?hd (cs := #[.int .i64 a1_0, .int .i64 a1_1, .string a1_2]) (t := 35) ?hr ?_; (case hd => rfl); (case hg => rfl); (case hr => first | (go_simp; done) | (go_simp; rfl)); intro gb102 hg w19 hbox hb; have n0_ := Aside0.mk (blk_below (g := gb101) (o := .cells #[.int .i64 a0_0, .int .i64 a0_1, .string a0_2] 35 (0, 0)) (by (with_reducible repeat (first | refine blk_drewN ?_ _ | refine blk_drew ?_ | refine blk_alloc ?_ _)); exact BK101.out) hb); have n1_ := Aside0.mk (below_step (by repeat (first | (with_reducible first | exact HB.out | apply below_alloc | apply pw_below_drewN | apply below_drew1 | refine below_set ?_ GE101.out) | exact HB.out)) hb); have n2_ := Aside0.mk (hbox); have n3_ := Aside0.mk ((by rw [hg]; exact (below_size (by repeat (first | (with_reducible first | exact HB.out | apply below_alloc | apply pw_below_drewN | apply below_drew1 | refine below_set ?_ GE101.out) | exact HB.out))) : w.heap.size ≤ gb102)); have n4_ := Aside0.mk ((by rw [hg]; exact (below_size (by repeat (first | (with_reducible first | exact HB.out | apply below_alloc | apply pw_below_drewN | apply below_drew1 | refine below_set ?_ GE101.out) | exact HB.out))) : w.heap.size ≤ gb102)); have n5_ := Aside0.mk ((by rw [hg]; exact Nat.ne_of_lt (blk_lt (g := gb101) (o := .cells #[.int .i64 a0_0, .int .i64 a0_1, .string a0_2] 35 (0, 0)) (by (with_reducible repeat (first | refine blk_drewN ?_ _ | refine blk_drew ?_ | refine blk_alloc ?_ _)); exact BK101.out)) : gb101 ≠ gb102)); have n6_ := Aside0.mk ((by rw [hg]; exact Nat.ne_of_gt (blk_lt (g := gb101) (o := .cells #[.int .i64 a0_0, .int .i64 a0_1, .string a0_2] 35 (0, 0)) (by (with_reducible repeat (first | refine blk_drewN ?_ _ | refine blk_drew ?_ | refine blk_alloc ?_ _)); exact BK101.out)) : gb102 ≠ gb101)); clear BK101; clear HB; have BK101 := n0_; have HB := n1_; have BK102 := n2_; have GW102 := n3_; have GE102 := n4_; have NB101_102 := n5_; have NB102_101 := n6_; clear n0_ n1_ n2_ n3_ n4_ n5_ n6_; clear hb hbox hg; have hnb20 := NB101_102.out; have hnc20 := NB102_101.out; have hcz21_0 : w19.cell? ⟨gb101, 0, none⟩ = some (.int .i64 a0_0) := (blk_cell BK101.out 0).trans rfl; have hcz21_1 : w19.cell? ⟨gb101, 1, none⟩ = some (.int .i64 a0_1) := (blk_cell BK101.out 1).trans rfl; have hcz21_2 : w19.cell? ⟨gb101, 2, none⟩ = some (.string a0_2) := (blk_cell BK101.out 2).trans rfl; have hfz21_0 := blk_frozen BK101.out 0; have hfz21_1 := blk_frozen BK101.out 1; have hfz21_2 := blk_frozen BK101.out 2; have hcz22_0 : w19.cell? ⟨gb102, 0, none⟩ = some (.int .i64 a1_0) := (blk_cell BK102.out 0).trans rfl; have hcz22_1 : w19.cell? ⟨gb102, 1, none⟩ = some (.int .i64 a1_1) := (blk_cell BK102.out 1).trans rfl; have hcz22_2 : w19.cell? ⟨gb102, 2, none⟩ = some (.string a1_2) := (blk_cell BK102.out 2).trans rfl; have hfz22_0 := blk_frozen BK102.out 0; have hfz22_1 := blk_frozen BK102.out 1; have hfz22_2 := blk_frozen BK102.out 2) | ((with_reducible refine gate_callee (f := 66) rfl ?_); refine goesL_ (some 14) rfl rfl Tryz.func66 (by kernel_rfl) rfl #[.int .i64 a0_0, .int .i64 a1_0] rfl (by (try simp only [List.map_toArray, List.map_cons, List.map_nil]); first | done | rfl | (simp only [List.length_drop, List.length_take]; rfl)) ?_; (with_reducible refine (chapmanref06_sign.calls a0_0 a1_0 t103 _ A17.out).mono ?_); rintro e w' ⟨rfl, ⟨nd, rfl⟩⟩; refine ⟨_, rfl, ?_⟩))
    go_ret
    exact ⟨by first | rfl | (simp [errW_none, errW_some] <;> rfl) | (simp [*, errW_none, errW_some] <;> rfl), by repeat (first | (with_reducible first | exact HB.out | apply below_alloc | apply pw_below_drewN | apply below_drew1 | refine below_set ?_ GE101.out | refine below_set ?_ GE102.out) | exact HB.out)⟩
end Go.Proofs.YteflfnjljjianaaGreatDoor.Qx
namespace Go.Proofs.YteflfnjljjianaaGreatDoor.Qx
open Go.RowKit Go.Proofs.YteflfnjljjianaaGreatDoorW.PrintWords Go.Proofs.YteflfnjljjianaaGreatDoorW.PrintLast Go.Proofs.YteflfnjljjianaaGreatDoorW.PrintMore
attribute [local go_sem] max2_int min2_int max_two min_two
set_option linter.unusedVariables false
set_option linter.unusedSimpArgs false
def partition_null.f  : Option (Int × Int × ByteArray) := some (0, 0, (⟨#[]⟩ : ByteArray))
set_option maxHeartbeats 8000000 in
set_option maxRecDepth 100000 in
theorem partition_null.calls  (r1 : Int) (r2 : Int) (r3 : ByteArray) (w : World) (h : partition_null.f  = some (r1, r2, r3)) :
    Calls Tryz.prog 47 #[] w fun e w' => e = .returned (.agg #[.int .i64 r1, .int .i64 r2, .string r3]) ∧ Below w.heap.size w w' := by
  have hu35 := Tryz.underlying35
  have HB := Aside0.mk (Below.refl w.heap.size w)
  have H : (some (0, 0, (⟨#[]⟩ : ByteArray))) = some (r1, r2, r3) := h
  clear h
  simp only [Option.some.injEq, Prod.mk.injEq] at H
  obtain ⟨rfl, rfl, rfl⟩ := H
  go_enter Tryz.func47, Tryz.ntmps47
  go_wp2_with (first | ((with_reducible refine gate_dst (N := 0) rfl ?_); refine box_event ?hg (N := 0) ?hd (cs := #[.int .i64 0, .int .i64 0, .string (⟨#[]⟩ : ByteArray)]) (t := 35) ?hr ?_; (case hd => rfl); (case hg => rfl); (case hr => first | (go_simp; done) | (go_simp; rfl)); intro gb101 hg w1 hbox hb; have n0_ := Aside0.mk (below_step (by repeat (first | (with_reducible first | exact HB.out | apply below_alloc | apply pw_below_drewN | apply below_drew1) | exact HB.out)) hb); have n1_ := Aside0.mk (hbox); have n2_ := Aside0.mk ((by rw [hg]; exact (below_size (by repeat (first | (with_reducible first | exact HB.out | apply below_alloc | apply pw_below_drewN | apply below_drew1) | exact HB.out))) : w.heap.size ≤ gb101)); have n3_ := Aside0.mk ((by rw [hg]; exact (below_size (by repeat (first | (with_reducible first | exact HB.out | apply below_alloc | apply pw_below_drewN | apply below_drew1) | exact HB.out))) : w.heap.size ≤ gb101)); clear HB; have HB := n0_; have BK101 := n1_; have GW101 := n2_; have GE101 := n3_; clear n0_ n1_ n2_ n3_; clear hb hbox hg) | ((with_reducible refine gate_dst (N := 1) rfl ?_); refine box_event ?hg (N := 1) ?hd (cs := #[.int .i64 0, .int .i64 0, .string (⟨#[]⟩ : ByteArray)]) (t := 35) ?hr ?_; (case hd => rfl); (case hg => rfl); (case hr => first | (go_simp; done) | (go_simp; rfl)); intro gb102 hg w2 hbox hb; have n0_ := Aside0.mk (blk_below (g := gb101) (o := .cells #[.int .i64 0, .int .i64 0, .string (⟨#[]⟩ : ByteArray)] 35 (0, 0)) (by (with_reducible repeat (first | refine blk_drewN ?_ _ | refine blk_drew ?_ | refine blk_alloc ?_ _)); exact BK101.out) hb); have n1_ := Aside0.mk (below_step (by repeat (first | (with_reducible first | exact HB.out | apply below_alloc | apply pw_below_drewN | apply below_drew1 | refine below_set ?_ GE101.out) | exact HB.out)) hb); have n2_ := Aside0.mk (hbox); have n3_ := Aside0.mk ((by rw [hg]; exact (below_size (by repeat (first | (with_reducible first | exact HB.out | apply below_alloc | apply pw_below_drewN | apply below_drew1 | refine below_set ?_ GE101.out) | exact HB.out))) : w.heap.size ≤ gb102)); have n4_ := Aside0.mk ((by rw [hg]; exact (below_size (by repeat (first | (with_reducible first | exact HB.out | apply below_alloc | apply pw_below_drewN | apply below_drew1 | refine below_set ?_ GE101.out) | exact HB.out))) : w.heap.size ≤ gb102)); have n5_ := Aside0.mk ((by rw [hg]; exact Nat.ne_of_lt (blk_lt (g := gb101) (o := .cells #[.int .i64 0, .int .i64 0, .string (⟨#[]⟩ : ByteArray)] 35 (0, 0)) (by (with_reducible repeat (first | refine blk_drewN ?_ _ | refine blk_drew ?_ | refine blk_alloc ?_ _)); exact BK101.out)) : gb101 ≠ gb102)); have n6_ := Aside0.mk ((by rw [hg]; exact Nat.ne_of_gt (blk_lt (g := gb101) (o := .cells #[.int .i64 0, .int .i64 0, .string (⟨#[]⟩ : ByteArray)] 35 (0, 0)) (by (with_reducible repeat (first | refine blk_drewN ?_ _ | refine blk_drew ?_ | refine blk_alloc ?_ _)); exact BK101.out)) : gb102 ≠ gb101)); clear BK101; clear HB; have BK101 := n0_; have HB := n1_; have BK102 := n2_; have GW102 := n3_; have GE102 := n4_; have NB101_102 := n5_; have NB102_101 := n6_; clear n0_ n1_ n2_ n3_ n4_ n5_ n6_; clear hb hbox hg; have hnb3 := NB102_101.out; have hnc3 := NB101_102.out; have hcz4_0 : w2.cell? ⟨gb102, 0, none⟩ = some (.int .i64 0) := (blk_cell BK102.out 0).trans rfl; have hcz4_1 : w2.cell? ⟨gb102, 1, none⟩ = some (.int .i64 0) := (blk_cell BK102.out 1).trans rfl; have hcz4_2 : w2.cell? ⟨gb102, 2, none⟩ = some (.string (⟨#[]⟩ : ByteArray)) := (blk_cell BK102.out 2).trans rfl; have hfz4_0 := blk_frozen BK102.out 0; have hfz4_1 := blk_frozen BK102.out 1; have hfz4_2 := blk_frozen BK102.out 2; have hcz5_0 : w2.cell? ⟨gb101, 0, none⟩ = some (.int .i64 0) := (blk_cell BK101.out 0).trans rfl; have hcz5_1 : w2.cell? ⟨gb101, 1, none⟩ = some (.int .i64 0) := (blk_cell BK101.out 1).trans rfl; have hcz5_2 : w2.cell? ⟨gb101, 2, none⟩ = some (.string (⟨#[]⟩ : ByteArray)) := (blk_cell BK101.out 2).trans rfl; have hfz5_0 := blk_frozen BK101.out 0; have hfz5_1 := blk_frozen BK101.out 1; have hfz5_2 := blk_frozen BK101.out 2))
  refine bodyPost_ret (results_cell_row rfl _ _ gb101 35 #[.int .i64 0, .int .i64 0, .string (⟨#[]⟩ : ByteArray)] (0, 0) _ rfl (by (with_reducible repeat (first | refine blk_drewN ?_ _ | refine blk_drew ?_ | refine blk_alloc ?_ _)); refine blk_put (cs := #[.int .i64 0, .int .i64 0, .string (⟨#[]⟩ : ByteArray)]) ?_ 2 _ rfl; (with_reducible repeat (first | refine blk_drewN ?_ _ | refine blk_drew ?_ | refine blk_alloc ?_ _)); refine blk_put (cs := #[.int .i64 0, .int .i64 0, .string (⟨#[]⟩ : ByteArray)]) ?_ 1 _ rfl; (with_reducible repeat (first | refine blk_drewN ?_ _ | refine blk_drew ?_ | refine blk_alloc ?_ _)); refine blk_put (cs := #[.int .i64 0, .int .i64 0, .string (⟨#[]⟩ : ByteArray)]) ?_ 0 _ rfl; (with_reducible repeat (first | refine blk_drewN ?_ _ | refine blk_drew ?_ | refine blk_alloc ?_ _)); exact BK101.out) Tryz.underlying35 rfl (by kernel_rfl)) rfl ?_
  exact ⟨by first | rfl | (simp [errW_none, errW_some] <;> rfl) | (simp [*, errW_none, errW_some] <;> rfl), by repeat (first | (with_reducible first | exact HB.out | apply below_alloc | apply pw_below_drewN | apply below_drew1 | refine below_set ?_ GE101.out | refine below_set ?_ GE102.out) | exact HB.out)⟩
end Go.Proofs.YteflfnjljjianaaGreatDoor.Qx
namespace Go.Proofs.YteflfnjljjianaaGreatDoor.Qx
open Go.RowKit Go.Proofs.YteflfnjljjianaaGreatDoorW.PrintWords Go.Proofs.YteflfnjljjianaaGreatDoorW.PrintLast Go.Proofs.YteflfnjljjianaaGreatDoorW.PrintMore
attribute [local go_sem] max2_int min2_int max_two min_two
set_option linter.unusedVariables false
set_option linter.unusedSimpArgs false
def partition_spec_same.f (a0_0 : Int) (a0_1 : Int) (a0_2 : Int) (a1_0 : Int) (a1_1 : Int) (a1_2 : ByteArray) : Option (Int × Int × ByteArray) := some (a1_0, a1_1, a1_2)
set_option maxHeartbeats 8000000 in
set_option maxRecDepth 100000 in
theorem partition_spec_same.calls (a0_0 : Int) (a0_1 : Int) (a0_2 : Int) (a1_0 : Int) (a1_1 : Int) (a1_2 : ByteArray) (r1 : Int) (r2 : Int) (r3 : ByteArray) (w : World) (h : partition_spec_same.f a0_0 a0_1 a0_2 a1_0 a1_1 a1_2 = some (r1, r2, r3)) :
    Calls Tryz.prog 76 #[.agg #[.int .i64 a0_0, .int .i64 a0_1, .int .i64 a0_2], .agg #[.int .i64 a1_0, .int .i64 a1_1, .string a1_2]] w fun e w' => e = .returned (.agg #[.int .i64 r1, .int .i64 r2, .string r3]) ∧ Below w.heap.size w w' := by
  have hu106 := Tryz.underlying106
  have hu35 := Tryz.underlying35
  have HB := Aside0.mk (Below.refl w.heap.size w)
  have H : (some (a1_0, a1_1, a1_2)) = some (r1, r2, r3) := h
  clear h
  simp only [Option.some.injEq, Prod.mk.injEq] at H
  obtain ⟨rfl, rfl, rfl⟩ := H
  go_enter Tryz.func76, Tryz.ntmps76
  go_wp2_with (first | ((with_reducible refine gate_dst (N := 2) rfl ?_); refine box_event ?hg (N := 2) ?hd (cs := #[.int .i64 a0_0, .int .i64 a0_1, .int .i64 a0_2]) (t := 106) ?hr ?_; (case hd => rfl); (case hg => rfl); (case hr => first | (go_simp; done) | (go_simp; rfl)); intro gb101 hg w3 hbox hb; have n0_ := Aside0.mk (below_step (by repeat (first | (with_reducible first | exact HB.out | apply below_alloc | apply pw_below_drewN | apply below_drew1) | exact HB.out)) hb); have n1_ := Aside0.mk (hbox); have n2_ := Aside0.mk ((by rw [hg]; exact (below_size (by repeat (first | (with_reducible first | exact HB.out | apply below_alloc | apply pw_below_drewN | apply below_drew1) | exact HB.out))) : w.heap.size ≤ gb101)); have n3_ := Aside0.mk ((by rw [hg]; exact (below_size (by repeat (first | (with_reducible first | exact HB.out | apply below_alloc | apply pw_below_drewN | apply below_drew1) | exact HB.out))) : w.heap.size ≤ gb101)); clear HB; have HB := n0_; have BK101 := n1_; have GW101 := n2_; have GE101 := n3_; clear n0_ n1_ n2_ n3_; clear hb hbox hg) | ((with_reducible refine gate_dst (N := 3) rfl ?_); refine box_event ?hg (N := 3) ?hd (cs := #[.int .i64 a1_0, .int .i64 a1_1, .string a1_2]) (t := 35) ?hr ?_; (case hd => rfl); (case hg => rfl); (case hr => first | (go_simp; done) | (go_simp; rfl)); intro gb102 hg w4 hbox hb; have n0_ := Aside0.mk (blk_below (g := gb101) (o := .cells #[.int .i64 a0_0, .int .i64 a0_1, .int .i64 a0_2] 106 (0, 0)) (by (with_reducible repeat (first | refine blk_drewN ?_ _ | refine blk_drew ?_ | refine blk_alloc ?_ _)); exact BK101.out) hb); have n1_ := Aside0.mk (below_step (by repeat (first | (with_reducible first | exact HB.out | apply below_alloc | apply pw_below_drewN | apply below_drew1 | refine below_set ?_ GE101.out) | exact HB.out)) hb); have n2_ := Aside0.mk (hbox); have n3_ := Aside0.mk ((by rw [hg]; exact (below_size (by repeat (first | (with_reducible first | exact HB.out | apply below_alloc | apply pw_below_drewN | apply below_drew1 | refine below_set ?_ GE101.out) | exact HB.out))) : w.heap.size ≤ gb102)); have n4_ := Aside0.mk ((by rw [hg]; exact (below_size (by repeat (first | (with_reducible first | exact HB.out | apply below_alloc | apply pw_below_drewN | apply below_drew1 | refine below_set ?_ GE101.out) | exact HB.out))) : w.heap.size ≤ gb102)); have n5_ := Aside0.mk ((by rw [hg]; exact Nat.ne_of_lt (blk_lt (g := gb101) (o := .cells #[.int .i64 a0_0, .int .i64 a0_1, .int .i64 a0_2] 106 (0, 0)) (by (with_reducible repeat (first | refine blk_drewN ?_ _ | refine blk_drew ?_ | refine blk_alloc ?_ _)); exact BK101.out)) : gb101 ≠ gb102)); have n6_ := Aside0.mk ((by rw [hg]; exact Nat.ne_of_gt (blk_lt (g := gb101) (o := .cells #[.int .i64 a0_0, .int .i64 a0_1, .int .i64 a0_2] 106 (0, 0)) (by (with_reducible repeat (first | refine blk_drewN ?_ _ | refine blk_drew ?_ | refine blk_alloc ?_ _)); exact BK101.out)) : gb102 ≠ gb101)); clear BK101; clear HB; have BK101 := n0_; have HB := n1_; have BK102 := n2_; have GW102 := n3_; have GE102 := n4_; have NB101_102 := n5_; have NB102_101 := n6_; clear n0_ n1_ n2_ n3_ n4_ n5_ n6_; clear hb hbox hg) | ((with_reducible refine gate_dst (N := 4) rfl ?_); refine box_event ?hg (N := 4) ?hd (cs := #[.int .i64 0, .int .i64 0, .string (⟨#[]⟩ : ByteArray)]) (t := 35) ?hr ?_; (case hd => rfl); (case hg => rfl); (case hr => first | (go_simp; done) | (go_simp; rfl)); intro gb103 hg w5 hbox hb; have n0_ := Aside0.mk (blk_below (g := gb101) (o := .cells #[.int .i64 a0_0, .int .i64 a0_1, .int .i64 a0_2] 106 (0, 0)) (by (with_reducible repeat (first | refine blk_drewN ?_ _ | refine blk_drew ?_ | refine blk_alloc ?_ _)); exact BK101.out) hb); have n1_ := Aside0.mk (blk_below (g := gb102) (o := .cells #[.int .i64 a1_0, .int .i64 a1_1, .string a1_2] 35 (0, 0)) (by (with_reducible repeat (first | refine blk_drewN ?_ _ | refine blk_drew ?_ | refine blk_alloc ?_ _)); exact BK102.out) hb); have n2_ := Aside0.mk (below_step (by repeat (first | (with_reducible first | exact HB.out | apply below_alloc | apply pw_below_drewN | apply below_drew1 | refine below_set ?_ GE101.out | refine below_set ?_ GE102.out) | exact HB.out)) hb); have n3_ := Aside0.mk (hbox); have n4_ := Aside0.mk ((by rw [hg]; exact (below_size (by repeat (first | (with_reducible first | exact HB.out | apply below_alloc | apply pw_below_drewN | apply below_drew1 | refine below_set ?_ GE101.out | refine below_set ?_ GE102.out) | exact HB.out))) : w.heap.size ≤ gb103)); have n5_ := Aside0.mk ((by rw [hg]; exact (below_size (by repeat (first | (with_reducible first | exact HB.out | apply below_alloc | apply pw_below_drewN | apply below_drew1 | refine below_set ?_ GE101.out | refine below_set ?_ GE102.out) | exact HB.out))) : w.heap.size ≤ gb103)); have n6_ := Aside0.mk ((by rw [hg]; exact Nat.ne_of_lt (blk_lt (g := gb101) (o := .cells #[.int .i64 a0_0, .int .i64 a0_1, .int .i64 a0_2] 106 (0, 0)) (by (with_reducible repeat (first | refine blk_drewN ?_ _ | refine blk_drew ?_ | refine blk_alloc ?_ _)); exact BK101.out)) : gb101 ≠ gb103)); have n7_ := Aside0.mk ((by rw [hg]; exact Nat.ne_of_gt (blk_lt (g := gb101) (o := .cells #[.int .i64 a0_0, .int .i64 a0_1, .int .i64 a0_2] 106 (0, 0)) (by (with_reducible repeat (first | refine blk_drewN ?_ _ | refine blk_drew ?_ | refine blk_alloc ?_ _)); exact BK101.out)) : gb103 ≠ gb101)); have n8_ := Aside0.mk ((by rw [hg]; exact Nat.ne_of_lt (blk_lt (g := gb102) (o := .cells #[.int .i64 a1_0, .int .i64 a1_1, .string a1_2] 35 (0, 0)) (by (with_reducible repeat (first | refine blk_drewN ?_ _ | refine blk_drew ?_ | refine blk_alloc ?_ _)); exact BK102.out)) : gb102 ≠ gb103)); have n9_ := Aside0.mk ((by rw [hg]; exact Nat.ne_of_gt (blk_lt (g := gb102) (o := .cells #[.int .i64 a1_0, .int .i64 a1_1, .string a1_2] 35 (0, 0)) (by (with_reducible repeat (first | refine blk_drewN ?_ _ | refine blk_drew ?_ | refine blk_alloc ?_ _)); exact BK102.out)) : gb103 ≠ gb102)); clear BK101; clear BK102; clear HB; have BK101 := n0_; have BK102 := n1_; have HB := n2_; have BK103 := n3_; have GW103 := n4_; have GE103 := n5_; have NB101_103 := n6_; have NB103_101 := n7_; have NB102_103 := n8_; have NB103_102 := n9_; clear n0_ n1_ n2_ n3_ n4_ n5_ n6_ n7_ n8_ n9_; clear hb hbox hg; have hnb6 := NB102_101.out; have hnc6 := NB101_102.out; have hnb7 := NB102_103.out; have hnc7 := NB103_102.out; have hcz8_0 : w5.cell? ⟨gb102, 0, none⟩ = some (.int .i64 a1_0) := (blk_cell BK102.out 0).trans rfl; have hcz8_1 : w5.cell? ⟨gb102, 1, none⟩ = some (.int .i64 a1_1) := (blk_cell BK102.out 1).trans rfl; have hcz8_2 : w5.cell? ⟨gb102, 2, none⟩ = some (.string a1_2) := (blk_cell BK102.out 2).trans rfl; have hfz8_0 := blk_frozen BK102.out 0; have hfz8_1 := blk_frozen BK102.out 1; have hfz8_2 := blk_frozen BK102.out 2; have hnb9 := NB103_101.out; have hnc9 := NB101_103.out; have hcz10_0 : w5.cell? ⟨gb103, 0, none⟩ = some (.int .i64 0) := (blk_cell BK103.out 0).trans rfl; have hcz10_1 : w5.cell? ⟨gb103, 1, none⟩ = some (.int .i64 0) := (blk_cell BK103.out 1).trans rfl; have hcz10_2 : w5.cell? ⟨gb103, 2, none⟩ = some (.string (⟨#[]⟩ : ByteArray)) := (blk_cell BK103.out 2).trans rfl; have hfz10_0 := blk_frozen BK103.out 0; have hfz10_1 := blk_frozen BK103.out 1; have hfz10_2 := blk_frozen BK103.out 2))
  refine bodyPost_ret (results_cell_row rfl _ _ gb103 35 #[.int .i64 a1_0, .int .i64 a1_1, .string a1_2] (0, 0) _ rfl (by (with_reducible repeat (first | refine blk_drewN ?_ _ | refine blk_drew ?_ | refine blk_alloc ?_ _)); refine blk_put (cs := #[.int .i64 a1_0, .int .i64 a1_1, .string (⟨#[]⟩ : ByteArray)]) ?_ 2 _ rfl; (with_reducible repeat (first | refine blk_drewN ?_ _ | refine blk_drew ?_ | refine blk_alloc ?_ _)); refine blk_put (cs := #[.int .i64 a1_0, .int .i64 0, .string (⟨#[]⟩ : ByteArray)]) ?_ 1 _ rfl; (with_reducible repeat (first | refine blk_drewN ?_ _ | refine blk_drew ?_ | refine blk_alloc ?_ _)); refine blk_put (cs := #[.int .i64 0, .int .i64 0, .string (⟨#[]⟩ : ByteArray)]) ?_ 0 _ rfl; (with_reducible repeat (first | refine blk_drewN ?_ _ | refine blk_drew ?_ | refine blk_alloc ?_ _)); exact BK103.out) Tryz.underlying35 rfl (by kernel_rfl)) rfl ?_
  exact ⟨by first | rfl | (simp [errW_none, errW_some] <;> rfl) | (simp [*, errW_none, errW_some] <;> rfl), by repeat (first | (with_reducible first | exact HB.out | apply below_alloc | apply pw_below_drewN | apply below_drew1 | refine below_set ?_ GE101.out | refine below_set ?_ GE102.out | refine below_set ?_ GE103.out) | exact HB.out)⟩
end Go.Proofs.YteflfnjljjianaaGreatDoor.Qx
namespace Go.Proofs.YteflfnjljjianaaGreatDoor.Qx
open Go.RowKit Go.Proofs.YteflfnjljjianaaGreatDoorW.PrintWords Go.Proofs.YteflfnjljjianaaGreatDoorW.PrintLast Go.Proofs.YteflfnjljjianaaGreatDoorW.PrintMore
attribute [local go_sem] max2_int min2_int max_two min_two
set_option linter.unusedVariables false
set_option linter.unusedSimpArgs false
def partition_num.f (a0 : Int) : Option (Int × Int × ByteArray) := some (2, a0, (⟨#[]⟩ : ByteArray))
set_option maxHeartbeats 8000000 in
set_option maxRecDepth 100000 in
theorem partition_num.calls (a0 : Int) (r1 : Int) (r2 : Int) (r3 : ByteArray) (w : World) (h : partition_num.f a0 = some (r1, r2, r3)) :
    Calls Tryz.prog 111 #[.int .i64 a0] w fun e w' => e = .returned (.agg #[.int .i64 r1, .int .i64 r2, .string r3]) ∧ Below w.heap.size w w' := by
  have hu35 := Tryz.underlying35
  have HB := Aside0.mk (Below.refl w.heap.size w)
  have H : (some (2, a0, (⟨#[]⟩ : ByteArray))) = some (r1, r2, r3) := h
  clear h
  simp only [Option.some.injEq, Prod.mk.injEq] at H
  obtain ⟨rfl, rfl, rfl⟩ := H
  go_enter Tryz.func111, Tryz.ntmps111
  go_wp2_with (first | ((with_reducible refine gate_dst (N := 2) rfl ?_); refine box_event ?hg (N := 2) ?hd (cs := #[.int .i64 0, .int .i64 0, .string (⟨#[]⟩ : ByteArray)]) (t := 35) ?hr ?_; (case hd => rfl); (case hg => rfl); (case hr => first | (go_simp; done) | (go_simp; rfl)); intro gb101 hg w2 hbox hb; have n0_ := Aside0.mk (below_step (by repeat (first | (with_reducible first | exact HB.out | apply below_alloc | apply pw_below_drewN | apply below_drew1) | exact HB.out)) hb); have n1_ := Aside0.mk (hbox); have n2_ := Aside0.mk ((by rw [hg]; exact (below_size (by repeat (first | (with_reducible first | exact HB.out | apply below_alloc | apply pw_below_drewN | apply below_drew1) | exact HB.out))) : w.heap.size ≤ gb101)); have n3_ := Aside0.mk ((by rw [hg]; exact (below_size (by repeat (first | (with_reducible first | exact HB.out | apply below_alloc | apply pw_below_drewN | apply below_drew1) | exact HB.out))) : w.heap.size ≤ gb101)); clear HB; have HB := n0_; have BK101 := n1_; have GW101 := n2_; have GE101 := n3_; clear n0_ n1_ n2_ n3_; clear hb hbox hg; have hcz3_0 : w2.cell? ⟨gb101, 0, none⟩ = some (.int .i64 0) := (blk_cell BK101.out 0).trans rfl; have hcz3_1 : w2.cell? ⟨gb101, 1, none⟩ = some (.int .i64 0) := (blk_cell BK101.out 1).trans rfl; have hcz3_2 : w2.cell? ⟨gb101, 2, none⟩ = some (.string (⟨#[]⟩ : ByteArray)) := (blk_cell BK101.out 2).trans rfl; have hfz3_0 := blk_frozen BK101.out 0; have hfz3_1 := blk_frozen BK101.out 1; have hfz3_2 := blk_frozen BK101.out 2))
  refine bodyPost_ret (results_cell_row rfl _ _ gb101 35 #[.int .i64 2, .int .i64 a0, .string (⟨#[]⟩ : ByteArray)] (0, 0) _ rfl (by (with_reducible repeat (first | refine blk_drewN ?_ _ | refine blk_drew ?_ | refine blk_alloc ?_ _)); refine blk_put (cs := #[.int .i64 2, .int .i64 a0, .string (⟨#[]⟩ : ByteArray)]) ?_ 2 _ rfl; (with_reducible repeat (first | refine blk_drewN ?_ _ | refine blk_drew ?_ | refine blk_alloc ?_ _)); refine blk_put (cs := #[.int .i64 2, .int .i64 0, .string (⟨#[]⟩ : ByteArray)]) ?_ 1 _ rfl; (with_reducible repeat (first | refine blk_drewN ?_ _ | refine blk_drew ?_ | refine blk_alloc ?_ _)); refine blk_put (cs := #[.int .i64 0, .int .i64 0, .string (⟨#[]⟩ : ByteArray)]) ?_ 0 _ rfl; (with_reducible repeat (first | refine blk_drewN ?_ _ | refine blk_drew ?_ | refine blk_alloc ?_ _)); exact BK101.out) Tryz.underlying35 rfl (by kernel_rfl)) rfl ?_
  exact ⟨by first | rfl | (simp [errW_none, errW_some] <;> rfl) | (simp [*, errW_none, errW_some] <;> rfl), by repeat (first | (with_reducible first | exact HB.out | apply below_alloc | apply pw_below_drewN | apply below_drew1 | refine below_set ?_ GE101.out) | exact HB.out)⟩
end Go.Proofs.YteflfnjljjianaaGreatDoor.Qx
namespace Go.Proofs.YteflfnjljjianaaGreatDoor.Qx
open Go.RowKit Go.Proofs.YteflfnjljjianaaGreatDoorW.PrintWords Go.Proofs.YteflfnjljjianaaGreatDoorW.PrintLast Go.Proofs.YteflfnjljjianaaGreatDoorW.PrintMore
attribute [local go_sem] max2_int min2_int max_two min_two
set_option linter.unusedVariables false
set_option linter.unusedSimpArgs false
set_option maxRecDepth 100000 in
theorem slices_Clip.calls (ao : Option Addr) (n c : Nat) (hn : n ≤ c) (w : World) : Calls Tryz.prog 143 #[.slice ao n c] w fun e w' => e = .returned (.slice ao n n) ∧ w' = w := by
  have hu22 := Tryz.underlying22
  go_enter Tryz.func143, Tryz.ntmps143
  go_wp2
  go_ret
  exact ⟨rfl, rfl⟩
end Go.Proofs.YteflfnjljjianaaGreatDoor.Qx
namespace Go.Proofs.YteflfnjljjianaaGreatDoor.Qx
open Go.RowKit Go.Proofs.YteflfnjljjianaaGreatDoorW.PrintWords Go.Proofs.YteflfnjljjianaaGreatDoorW.PrintLast Go.Proofs.YteflfnjljjianaaGreatDoorW.PrintMore
attribute [local go_sem] max2_int min2_int max_two min_two
set_option linter.unusedVariables false
set_option linter.unusedSimpArgs false
def BytesAt (w : World) (ao : Option Addr) (zs : List Int) : Prop := (ao = none → zs = []) ∧ ∀ b, ao = some b → ∀ j u, (zs.map (Value.int .u8))[j]? = some u → w.cell? (b.add j) = some u
theorem info5 : (Tryz.prog.info? 5).map (fun i => (i.zero, i.size, i.bytes)) = some (some (.int .u8 0), 1, 1) := by kernel_rfl
theorem one_cells (w : World) (t : TypeId) (x : Int) : ∀ j u, ([Value.int .u8 x])[j]? = some u → (w.alloc (.cells #[.int .u8 x] t)).cell? ((⟨w.heap.size, 0, none⟩ : Addr).add j) = some u := by
  intro j u hj
  match j, hj with
  | 0, hj => simp at hj; subst hj; simp [Addr.add, go_sem]
theorem one_oneCell (x : Int) : ∀ u ∈ [Value.int .u8 x], u.oneCell' = true := by intro u hu; simp at hu; subst hu; rfl
theorem ownsRow_lower {w : World} {b b' : Nat} {e : TypeId} {size : Nat} {v : Value} {n : Nat} {xs : List Value} (h : w.ownsRow b e size v n xs) (hb : b' ≤ b) : w.ownsRow b' e size v n xs :=
  ⟨h.1, h.2.imp id (fun ⟨g, cap, cur, e1, h1, r⟩ => ⟨g, cap, cur, e1, Nat.le_trans hb h1, r⟩)⟩
def viHigh (y : Int) : Int := bits BinOp.or IntKind.u8 (y % 256) 128
def vi : Nat → Int → List Int
  | 0, y => [y]
  | k + 1, y => if 127 < y then viHigh y :: vi k (y / 128) else [y]
theorem vi_le : ∀ (k : Nat) (y : Int), (vi k y).length ≤ k + 1
  | 0, _ => Nat.le_refl _
  | k + 1, y => by
    unfold vi
    split
    · have := vi_le k (y / 128)
      simp only [List.length_cons]; omega
    · simp
set_option maxRecDepth 100000 in
set_option maxHeartbeats 4000000 in
theorem bitpack_Varint.calls (ao : Option Addr) (n c : Nat) (zs : List Int) (hz : zs.length = n) (hn : n ≤ c) (hm : n ≤ 1000000) (h0 : ao = none → c = 0) (x : Int) (hx0 : 0 ≤ x) (hx1 : x < 18446744073709551616) (w : World) (hr : BytesAt w ao zs) :
    Calls Tryz.prog 144 #[.slice ao n c, .int .u64 x] w fun e w' => ∃ v, e = .returned v ∧ w'.ownsRow w.heap.size 5 1 v (n + (vi 9 x).length) ((zs ++ vi 9 x).map (.int .u8)) ∧ Below w.heap.size w w' := by
  have hu22 := Tryz.underlying22
  obtain ⟨i0, hi, hz0, hz1, hz2⟩ := info_parts info5
  have hn0 : ao = none → n = 0 ∧ n = 0 := fun h => by have := h0 h; omega
  have HR := Lib.hid hr
  have HZ := Lib.hid hz
  have HN := Lib.hid hn0
  clear hr hz hn0 h0
  go_enter Tryz.func144, Tryz.ntmps144
  go_wp2_with fail
  refine (slices_Clip.calls ao n c hn _).mono ?_
  rintro e w' ⟨rfl, hw⟩
  obtain rfl : w = w' := hw.symm
  go_wp2
  go_loopw [1, 5] (fun s1 s5 wr => ∃ (k : Nat) (y : Int) (ds : List Int), s1 = .int .u64 y ∧ 0 ≤ y ∧ y < 128 ^ (k + 1) ∧ ds ++ vi k y = vi 9 x ∧ ds.length + k = 9 ∧ ((ds = [] ∧ s5 = .slice ao n n ∧ wr = w) ∨ (wr.ownsRow w.heap.size 5 1 s5 (n + ds.length) ((zs ++ ds).map (.int .u8)) ∧ Below w.heap.size w wr))) (fun s1 _ _ => (intOf s1).toNat)
  case atStart => exact ⟨9, x, [], rfl, hx0, by omega, rfl, rfl, .inl ⟨rfl, rfl, rfl⟩⟩
  case round =>
    obtain ⟨k, y, ds, rfl, hy, hy1, hds, hk, hrel⟩ := hrel
    by_cases h : 127 < y
    · have hd : decide (127 < y) = true := decide_eq_true h
      obtain ⟨k, rfl⟩ : ∃ m, k = m + 1 := ⟨k - 1, by
        have : k ≠ 0 := by rintro rfl; simp at hy1; omega
        omega⟩
      have hv : vi (k + 1) y = viHigh y :: vi k (y / 128) := by simp only [vi, if_pos h]
      rw [hv] at hds
      have HD := Lib.hid hds
      clear hds hv
      rcases hrel with ⟨rfl, rfl, hw0⟩ | ⟨hown, hb⟩
      · obtain rfl : w = wr := hw0.symm
        go_wp2_with (at_builtin; refine wpList_append_grows _ rfl (.tmp 12) (.tmp 16) 22 rfl 5 i0 (.int .u8 0) 1 1 Tryz.underlying22 hi hz0 hz1 hz2 rfl (by decide) ao n n (zs.map (.int .u8)) rfl HN.out (by simp [HZ.out]) (fun b e j u hj => pw_cell_below ((Below.refl _ w).alloc (Nat.le_refl _) _) (HR.out.2 b e j u hj)) ⟨w.heap.size, 0, none⟩ 1 1 [.int .u8 (viHigh y)] rfl rfl ?n1_1 (one_oneCell _) (by omega) (by unfold maxLen; omega) (by omega) ?n2_1)
        case n1_1 => exact fun j u h => h
        case n2_1 =>
          intro v' w1 hown hg
          have hb := ((Below.refl w.heap.size w).alloc (Nat.le_refl _) _).grown hg (by simp) (fun k h => by cases h)
          go_wp2
          refine ⟨⟨k, y / 128, [viHigh y], rfl, by omega, by rw [Int.pow_succ] at hy1; omega, HD.out, by simp at hk ⊢; omega, .inr ⟨?_, hb⟩⟩, by simp [intOf]; omega⟩
          simpa using ownsRow_lower hown (by simp)
      · go_wp2_with (at_builtin; refine wpList_append_own _ rfl (.tmp 12) (.tmp 16) 22 rfl w.heap.size 5 i0 (.int .u8 0) 1 1 Tryz.underlying22 hi hz0 hz1 hz2 rfl (by decide) _ (n + ds.length) ((zs ++ ds).map (.int .u8)) rfl (hown.alloc _) ⟨wr.heap.size, 0, none⟩ 1 1 [.int .u8 (viHigh y)] rfl rfl ?n1_2 (one_oneCell _) (by unfold maxLen; omega) (by omega) (by simp; exact Nat.le_trans hb.size (Nat.le_succ _)) ?n2_2)
        case n1_2 => exact one_cells wr 5 _
        case n2_2 =>
          intro v' w1 hown' hg _
          have hb1 := (hb.alloc hb.size _).grown hg (by simp; exact Nat.le_trans hb.size (Nat.le_succ _)) (fun k h => (hown.lt k h).1)
          go_wp2
          refine ⟨⟨k, y / 128, ds ++ [viHigh y], rfl, by omega, by rw [Int.pow_succ] at hy1; omega, by rw [List.append_assoc]; exact HD.out, by simp at hk ⊢; omega, .inr ⟨?_, hb1⟩⟩, by simp [intOf]; omega⟩
          simpa [Nat.add_assoc] using hown'
    · have hd : decide (127 < y) = false := decide_eq_false h
      have hv : vi k y = [y] := by
        cases k with
        | zero => rfl
        | succ k => simp only [vi, if_neg h]
      rw [hv] at hds
      have HD := Lib.hid hds
      clear hds hv
      have hlen : (vi 9 x).length = ds.length + 1 := by rw [← HD.out]; simp
      rcases hrel with ⟨rfl, rfl, hw0⟩ | ⟨hown, hb⟩
      · obtain rfl : w = wr := hw0.symm
        go_wp2_with (at_builtin; refine wpList_append_grows _ rfl (.tmp 18) (.tmp 21) 22 rfl 5 i0 (.int .u8 0) 1 1 Tryz.underlying22 hi hz0 hz1 hz2 rfl (by decide) ao n n (zs.map (.int .u8)) rfl HN.out (by simp [HZ.out]) (fun b e j u hj => pw_cell_below ((Below.refl _ w).alloc (Nat.le_refl _) _) (HR.out.2 b e j u hj)) ⟨w.heap.size, 0, none⟩ 1 1 [.int .u8 y] rfl rfl ?n1_3 (one_oneCell _) (by omega) (by unfold maxLen; omega) (by omega) ?n2_3)
        case n2_3 =>
          intro v' w1 hown hg
          have hb := ((Below.refl w.heap.size w).alloc (Nat.le_refl _) _).grown hg (by simp) (fun k h => by cases h)
          go_wp2
          go_ret
          refine ⟨_, rfl, ?_, hb⟩
          rw [← HD.out]
          simpa using ownsRow_lower hown (by simp)
      · go_wp2_with (at_builtin; refine wpList_append_own _ rfl (.tmp 18) (.tmp 21) 22 rfl w.heap.size 5 i0 (.int .u8 0) 1 1 Tryz.underlying22 hi hz0 hz1 hz2 rfl (by decide) _ (n + ds.length) ((zs ++ ds).map (.int .u8)) rfl (hown.alloc _) ⟨wr.heap.size, 0, none⟩ 1 1 [.int .u8 y] rfl rfl ?n1_4 (one_oneCell _) (by unfold maxLen; omega) (by omega) (by simp; exact Nat.le_trans hb.size (Nat.le_succ _)) ?n2_4)
        case n2_4 =>
          intro v' w1 hown' hg _
          have hb1 := (hb.alloc hb.size _).grown hg (by simp; exact Nat.le_trans hb.size (Nat.le_succ _)) (fun k h => (hown.lt k h).1)
          go_wp2
          go_ret
          refine ⟨_, rfl, ?_, hb1⟩
          rw [← HD.out]
          simpa [Nat.add_assoc] using hown'
end Go.Proofs.YteflfnjljjianaaGreatDoor.Qx
namespace Go.Proofs.YteflfnjljjianaaGreatDoor.Qx
open Go.RowKit Go.Proofs.YteflfnjljjianaaGreatDoorW.PrintWords Go.Proofs.YteflfnjljjianaaGreatDoorW.PrintLast Go.Proofs.YteflfnjljjianaaGreatDoorW.PrintMore
attribute [local go_sem] max2_int min2_int max_two min_two
set_option linter.unusedVariables false
set_option linter.unusedSimpArgs false
def digStep (h x : Int) : Int := IntKind.u64.wrap (bits BinOp.xor IntKind.u64 (IntKind.u64.wrap (bits BinOp.xor IntKind.u64 h x * 15485907386658061715)) (IntKind.u64.wrap (bits BinOp.xor IntKind.u64 h x * 15485907386658061715) / 4294967296) * 11562461410679940143)
set_option maxRecDepth 100000 in
set_option maxHeartbeats 2000000 in
theorem digest_add.one (sa ad : Addr) (c : Nat) (h x : Int) (w : World) (h0 : w.cell? sa = some (.int .u64 h)) (hf : w.frozen? sa = false) (h1 : w.cell? ad = some (.int .u64 x)) :
    Calls Tryz.prog 142 #[.pointer (some sa), .slice (some ad) 1 c] w fun e w' => e = .returned (.tuple #[]) ∧ w' = w.setCell sa (.int .u64 (digStep h x)) := by
  have hu173 := Tryz.underlying173
  have hu205 := Tryz.underlying205
  have ez : ad.add (0 * 1) = ad := rfl
  have ez2 : ad.add 0 = ad := rfl
  go_enter Tryz.func142, Tryz.ntmps142
  go_wp2
  refine wp_loop_rounds 2 ?_
  rw [rounds_succ]
  go_wp2
  rw [rounds_succ]
  go_wp2
  go_end0
  exact ⟨rfl, rfl⟩
section
variable {F : Fence} {n : Nat} {P : Program}
structure ButBox (gb : Nat) (A B : World) : Prop where
  os : B.os = A.os
  tape : B.tape = A.tape
  output : B.output = A.output
  size : A.heap.size = B.heap.size
  block : ∀ k, k ≠ gb → B.heap[k]? = A.heap[k]?
theorem ButBox.setCell (gb : Nat) (W : World) (v : Value) : ButBox gb W (W.setCell ⟨gb, 0, none⟩ v) :=
  ⟨rfl, rfl, rfl, by simp, fun k hk => Below.heap_setCell W ⟨gb, 0, none⟩ v k hk⟩
theorem wpIn_rangeFunc_box {α : Type} {g : Operand} {ps : Array Tmp} {assign body : Code} {Q : Exit → Act → World → Prop} {a : Act} {w : World}
    (hro : F.round = none) (h1 : 1 ≤ n) {gf : Nat} {lb : Array Value} (hg : a.eval g = .func (.func gf) #[] lb) (hFg : F.fn gf) (eg : ∀ args w, (callFunc gf args).run P w = .ok (.enter gf args) w)
    {encs : α → Array Value} (hps : ∀ x, (encs x).size = ps.size) (gb : Nat) (hgb : gb < w.heap.size) (keep : Nat → Prop) (xs : List α) (I : List α → World → Prop)
    (hseq : ∀ (J : List α → World → Prop) (W : World), Below w.heap.size w W → (∀ pre A B, J pre A → ButBox gb A B → J pre B) →
      (∀ pre x W1, J pre W1 → YieldAt F (n - 1 - 1) P (w.heap.size + 1) (encs x) W1 fun e W' => e = .returned (.bool true) ∧ J (pre ++ [x]) W' ∧ W1.heap.size ≤ W'.heap.size ∧ ∀ k, k < w.heap.size → keep k → W'.heap[k]? = W1.heap[k]?) →
      J [] W → CallsIn F (n - 1) P gf (#[.func (.yield (w.heap.size + 1)) #[] #[]] ++ lb) W fun e W' => (∃ v, e = .returned v) ∧ J xs W')
    (hI : ∀ pre A B, I pre A → ButBox gb A B → I pre B) (hIp : ∀ pre W l o, w.heap.size ≤ l → I pre W → I pre (W.putObj l o)) (h0 : ∀ W, Below w.heap.size w W → I [] W) (a₁ : α → Act)
    (hassign : ∀ (l : Nat) (x : α) (W : World) (K : Act → World → Prop), K (a₁ x) W →
      assign.wpIn (F.inRound l) (n - 1 - 1) P (Exit.then K (fun _ _ _ => False)) { tmps := (ps.zip (encs x)).foldl (fun t (p, v) => t.setIfInBounds p v) a.tmps, defers := [] } W)
    (hbody : ∀ (l : Nat) (pre : List α) (x : α) (W : World), I pre W → body.wpIn (F.inRound l) (n - 1 - 1) P (fun e _ W' => e = .normal ∧ I (pre ++ [x]) W' ∧ W.heap.size ≤ W'.heap.size ∧ ∀ k, k < W.heap.size → (k < w.heap.size → keep k) → W'.heap[k]? = W.heap[k]?) (a₁ x) W)
    (hdone : ∀ (D : Nat) (W : World), w.heap.size ≤ D → I xs W → W.heap[D]? = some (.deferred (some [])) → Q .normal { a with defers := { target := .collected D, args := #[] } :: a.defers } W) :
    (Code.rangeFunc g ps assign body).wpIn F n P Q a w := by
  refine wpIn_rangeFunc ?_
  intro fn hfn
  rw [hro]
  obtain ⟨rec, hrec⟩ : ∃ rec : LoopState → Option Code → Loop, rec = fun st pe => { state := st, pending := pe, fn, tmps := a.tmps, params := ps, assign, body, defers := w.heap.size } := ⟨_, rfl⟩
  obtain ⟨W1, hW1⟩ : ∃ W1, (w.alloc (.deferred (some []))).alloc (.loop (rec .ready none)) = W1 := ⟨_, rfl⟩
  have hL1 : W1.heap[w.heap.size + 1]? = some (.loop (rec .ready none)) := by
    rw [← hW1]
    have := World.alloc_heap_new (w.alloc (.deferred (some []))) (.loop (rec .ready none))
    rwa [World.size_alloc] at this
  have hK1 : W1.heap[w.heap.size]? = some (.deferred (some [])) := by
    rw [← hW1]
    exact (Below.heap_alloc _ _ _ (by simp)).trans (World.alloc_heap_new w _)
  have hb1 : Below w.heap.size w W1 := by
    rw [← hW1]
    exact ((Below.refl _ w).alloc (Nat.le_refl _) _).alloc (by simp) _
  refine ⟨w.heap.size + 1, [{ target := .collected w.heap.size, args := #[] }], W1, { target := .fn (.func gf) lb, args := #[.func (.yield (w.heap.size + 1)) #[] #[]] }, W1, gf,
    #[.func (.yield (w.heap.size + 1)) #[] #[]] ++ lb, W1, ?_, ?_, ?_, ?_, fun _ => h1, ?_⟩
  · rw [← hW1, hrec]
    exact run_enterLoop_outer _ _ _ _ _
  · simp only [resolve, hg]
    simp [go_sem]
  · intro f' hf'
    simp [Target.leads] at hf'
    subst hf'
    exact hFg
  · simp [invoke, go_sem, eg]
  · refine (hseq (fun pre W => I pre W ∧ W.heap[w.heap.size + 1]? = some (.loop (rec .ready none)) ∧ W.heap[w.heap.size]? = some (.deferred (some []))) W1 hb1
      (fun pre A B hs hk => ⟨hI pre A B hs.1 hk, (hk.block _ (by omega)).trans hs.2.1, (hk.block _ (by omega)).trans hs.2.2⟩) ?_ ⟨h0 W1 hb1, hL1, hK1⟩).mono ?_
    · rintro pre x W ⟨hi, hl, hk⟩
      have hlt : w.heap.size + 1 < W.heap.size := (Array.getElem?_eq_some_iff.1 hl).1
      have hy := run_yield (P := P) (args := encs x) hl (by rw [hrec]; exact hps x)
      rw [hrec] at hy
      refine ⟨fn, _, assign, body, hy, roundIn_of_wpIn hfn (hassign _ x W _ ⟨_, run_beginRound hl (by rw [hrec]), ?_⟩)⟩
      have hl2 : (W.putObj (w.heap.size + 1) (.loop { rec .ready none with state := .busy })).heap[w.heap.size + 1]? = some (.loop { rec .ready none with state := .busy }) := World.putObj_heap_same hlt
      have hk2 : (W.putObj (w.heap.size + 1) (.loop { rec .ready none with state := .busy })).heap[w.heap.size]? = some (.deferred (some [])) := (World.putObj_heap_other (by omega)).trans hk
      refine wpIn_mono (hbody _ pre x _ (hIp _ _ _ _ (by omega) hi)) ?_
      rintro e a3 W3 ⟨rfl, hi3, hs3, hk3⟩
      have hlt2 : w.heap.size + 1 < (W.putObj (w.heap.size + 1) (.loop { rec .ready none with state := .busy })).heap.size := by simpa using hlt
      have hl3 := (hk3 (w.heap.size + 1) hlt2 (by omega)).trans hl2
      have hr := run_endRound (P := P) none hl3
      refine ⟨_, _, hr, rfl, ⟨hIp _ _ _ _ (by omega) hi3, ?_, (World.putObj_heap_other (by omega)).trans ((hk3 w.heap.size (by simp; omega) (fun h => absurd h (Nat.lt_irrefl _))).trans hk2)⟩, ?_, ?_⟩
      · rw [World.putObj_heap_same (Array.getElem?_eq_some_iff.1 hl3).1, hrec]
        rfl
      · simpa using hs3
      · intro k hkl hkk
        exact (World.putObj_heap_other (by omega)).trans ((hk3 k (by simp; omega) (fun _ => hkk)).trans (World.putObj_heap_other (by omega)))
    · rintro e W2 ⟨⟨v, rfl⟩, hi, hl, hk⟩
      exact ⟨none, _, by have := run_endLoop (P := P) hl (by rw [hrec]; simp); rw [hrec] at this; exact this, hdone _ _ (Nat.le_refl _) (hIp _ _ _ _ (by omega) hi) ((World.putObj_heap_other (by omega)).trans hk)⟩
end
theorem digest_groups.calls (ao : Option Addr) (n c : Nat) (w : World) : Calls Tryz.prog 141 #[.slice ao n c] w fun e w' => e = .returned (.func (.func 165) #[] #[.pointer (some ⟨w.heap.size, 0, none⟩)]) ∧ w' = w.alloc (.cells #[.slice ao n c] 22) := by
  have hu22 := Tryz.underlying22
  go_enter Tryz.func141, Tryz.ntmps141
  go_wp2
  go_ret
  exact ⟨rfl, rfl⟩
theorem BytesAt.moved {W W' : World} {ao : Option Addr} {zs : List Int} (h : BytesAt W ao zs) (hh : ∀ a, ao = some a → W'.heap[a.block]? = W.heap[a.block]?) : BytesAt W' ao zs :=
  ⟨h.1, fun b e j u hj => (World.cell?_of_block (by rw [add_block]; exact hh b e)).trans (h.2 b e j u hj)⟩
theorem BytesAt.cut {W : World} {b : Addr} {zs : List Int} (h : BytesAt W (some b) zs) (q c : Nat) (hc : zs.length ≤ c) : BytesAt W (if c = q then some b else some (b.add q)) (zs.drop q) := by
  split
  · have : zs.drop q = [] := List.drop_eq_nil_of_le (by omega)
    rw [this]
    exact ⟨nofun, fun _ _ _ _ hj => by simp at hj⟩
  · refine ⟨nofun, fun d e j u hj => ?_⟩
    cases e
    have := h.2 b rfl (q + j) u (by rw [← hj]; simp [List.getElem?_drop])
    rwa [show (b.add q).add j = b.add (q + j) by
      by_cases hq0 : q = 0 <;> by_cases hj0 : j = 0 <;> simp [Addr.add, hq0, hj0, Nat.add_assoc]]
def wordOf (zs : List Int) : Nat → Int
  | 0 => 0
  | j + 1 => bits BinOp.or IntKind.u64 (wordOf zs j) (IntKind.u64.wrap (IntKind.u64.wrap (zs.getD j 0) * 2 ^ (8 * j)))
def wordsOf : Nat → List Int → List Int
  | 0, _ => []
  | k + 1, zs => if zs = [] then [] else wordOf zs (min 8 zs.length) :: wordsOf k (zs.drop 8)
set_option maxRecDepth 100000 in
set_option maxHeartbeats 2000000 in
theorem digest_groups_1.gives (F : Fence) (n : Nat) (hF : F.fn 165) (hro : F.round = none) (hn : 1 ≤ n) (l gb lim : Nat) (hgl : gb < lim) (keep : Nat → Prop) (hkg : keep gb) (J : List Int → World → Prop) (hJ : ∀ pre A B, J pre A → ButBox gb A B → J pre B)
    (hY : ∀ pre x W1, J pre W1 → YieldAt F (n - 1) Tryz.prog l #[.int .u64 x] W1 fun e W' => e = .returned (.bool true) ∧ J (pre ++ [x]) W' ∧ W1.heap.size ≤ W'.heap.size ∧ ∀ k, k < lim → keep k → W'.heap[k]? = W1.heap[k]?)
    (ao : Option Addr) (m c : Nat) (zs0 : List Int) (hz : zs0.length = m) (hm : m ≤ 1000000) (hc : m ≤ c) (W : World) (hb : W.heap[gb]? = some (.cells #[.slice ao m c] 22 (0, 0))) (hr : BytesAt W ao zs0) (hal : ∀ a, ao = some a → a.block < lim ∧ keep a.block ∧ a.block ≠ gb) (h0 : J [] W) :
    CallsIn F n Tryz.prog 165 #[.func (.yield l) #[] #[], .pointer (some ⟨gb, 0, none⟩)] W fun e W' => (∃ v, e = .returned v) ∧ J (wordsOf (m + 1) zs0) W' := by
  subst hz
  have hu22 := Tryz.underlying22
  refine callsIn_of_wp Tryz.func165 rfl hF ?_ hro
  simp only [Tryz.ntmps165, List.size_toArray, List.length_cons, List.length_nil, Nat.reduceAdd, Nat.reduceSub, Array.replicate_succ, Array.replicate_zero, List.push_toArray, List.append_toArray, List.nil_append, List.cons_append]
  gi_wp2
  gi_loopw [3, 4] (fun _ _ wr => ∃ (ao : Option Addr) (m c : Nat) (zs pre : List Int) (k : Nat), zs.length = m ∧ m ≤ 1000000 ∧ m ≤ c ∧ m < k ∧ pre ++ wordsOf k zs = wordsOf (zs0.length + 1) zs0 ∧ wr.heap[gb]? = some (.cells #[.slice ao m c] 22 (0, 0)) ∧ BytesAt wr ao zs ∧ (∀ a, ao = some a → a.block < lim ∧ keep a.block ∧ a.block ≠ gb) ∧ J pre wr) (fun _ _ wr => match wr.cell? ⟨gb, 0, none⟩ with | some (.slice _ m _) => m | _ => 0)
  case atStart => exact ⟨ao, _, c, zs0, [], _, rfl, hm, hc, Nat.lt_succ_self _, rfl, hb, hr, hal, h0⟩
  case round =>
    clear hb hr hal h0 hc hm
    obtain ⟨ao, m, c, zs, pre, k, hz, hm, hc, hk, hpre, hb, hr, hal, hJp⟩ := hrel
    have c0 : wr.cell? ⟨gb, 0, none⟩ = some (.slice ao m c) := (blk_cell hb 0).trans rfl
    by_cases hm0 : m = 0
    · subst hm0
      obtain rfl : zs = [] := List.eq_nil_of_length_eq_zero hz
      obtain ⟨k, rfl⟩ : ∃ q, k = q + 1 := ⟨k - 1, by omega⟩
      have hw0 : wordsOf (k + 1) [] = [] := by simp [wordsOf]
      rw [hw0, List.append_nil] at hpre
      have HP := Lib.hid hpre
      clear hpre hr hal
      gi_wp2
      go_end0
      refine ⟨⟨_, rfl⟩, ?_⟩
      rw [← HP.out]
      exact hJp
    · obtain ⟨q, hq⟩ : ∃ q, q = min 8 m := ⟨_, rfl⟩
      have hq8 : q ≤ 8 := by omega
      have hqm : q ≤ m := by omega
      have hq0 : 0 < q := by omega
      have hmn : (if m < 8 then (m : Int) else 8) = (q : Int) := by split <;> omega
      obtain ⟨k, rfl⟩ : ∃ q, k = q + 1 := ⟨k - 1, by omega⟩
      have hzn : zs ≠ [] := by rintro rfl; exact hm0 hz.symm
      have hw1 : wordsOf (k + 1) zs = wordOf zs q :: wordsOf k (zs.drop 8) := by simp only [wordsOf, if_neg hzn, hz, ← hq]
      rw [hw1] at hpre
      clear hw1
      obtain ⟨b, rfl⟩ : ∃ b, ao = some b := by
        cases ao with
        | none => exact absurd (hr.1 rfl) hzn
        | some b => exact ⟨b, rfl⟩
      obtain ⟨fn, tmps, assign, body, hy, hR⟩ := hY pre (wordOf zs q) wr hJp
      have HP := Lib.hid hpre
      have HR := Lib.hid hr
      have HA := Lib.hid hal
      have HJ := Lib.hid hJ
      have HZ := Lib.hid hz
      have HQ := Lib.hid hq
      have hd0 : decide (0 < m) = true := decide_eq_true (by omega)
      clear hpre hr hal hz hq hzn hY hJ
      gi_wp2
      case inl =>
        obtain rfl : q = m := by have := HQ.out; omega
        gi_loopw [4, 17] (fun s4 s17 wr' => ∃ j : Nat, j ≤ q ∧ s4 = .int .u64 (wordOf zs j) ∧ s17 = .int .i64 j ∧ wr' = wr) (fun _ s17 _ => q - (intOf s17).toNat)
        case atStart => exact ⟨0, Nat.zero_le _, rfl, rfl, rfl⟩
        case round =>
          obtain ⟨j, hj, rfl, rfl, hw⟩ := hrel
          subst hw
          by_cases hjq : j < q
          · have hx := HR.out.2 b rfl j (.int .u8 (zs.getD j 0)) (by
              have : j < zs.length := by have := HZ.out; omega
              simp [List.getD_eq_getElem?_getD, List.getElem?_eq_getElem this])
            have hd1 : decide ((j : Int) < (q : Int)) = true := decide_eq_true (by omega)
            have hd2 : (j : Int) < (q : Int) := by omega
            gi_wp2
            refine ⟨⟨j + 1, hjq, ?_, by simp, trivial⟩, by simp [intOf]; omega⟩
            simp [wordOf]
          · obtain rfl : q = j := by omega
            gi_wp2
            refine hR.mono ?_
            rintro e W3 ⟨rfl, hJ3, hs3, hk3⟩
            have hb3 := (hk3 gb hgl hkg).trans hb
            have c3 : W3.cell? ⟨gb, 0, none⟩ = some (.slice (some b) _ c) := (blk_cell hb3 0).trans rfl
            have f3 := blk_frozen hb3 0
            gi_wp2
            have hb4 := blk_set hb3 0 (.slice (if c = q then some b else some (b.add q)) (0) (c - q))
            have c4 := blk_cell hb4 0
            refine ⟨⟨if c = q then some b else some (b.add q), 0, c - q, zs.drop 8, pre ++ [wordOf zs q], k, by have := HZ.out; simp; omega, by omega, by omega, by omega, by rw [List.append_assoc]; exact HP.out, ?_, ?_, ?_, ?_⟩, ?_⟩
            · exact hb4
            · have : zs.drop 8 = [] := List.drop_eq_nil_of_le (by have := HZ.out; omega)
              rw [this]
              exact ⟨fun _ => rfl, fun _ _ _ _ hj => by simp at hj⟩
            · intro a ha
              have : a.block = b.block := by
                split at ha <;> (cases ha; first | rfl | rw [add_block])
              rw [this]
              exact HA.out b rfl
            · exact HJ.out _ _ _ hJ3 (ButBox.setCell gb W3 _)
            · rw [c4, c0]
              simp
              omega
      case inr =>
        obtain rfl : q = 8 := by have := HQ.out; omega
        gi_loopw [4, 17] (fun s4 s17 wr' => ∃ j : Nat, j ≤ 8 ∧ s4 = .int .u64 (wordOf zs j) ∧ s17 = .int .i64 j ∧ wr' = wr) (fun _ s17 _ => 8 - (intOf s17).toNat)
        case atStart => exact ⟨0, Nat.zero_le _, rfl, rfl, rfl⟩
        case round =>
          obtain ⟨j, hj, rfl, rfl, hw⟩ := hrel
          subst hw
          by_cases hjq : j < 8
          · have hx := HR.out.2 b rfl j (.int .u8 (zs.getD j 0)) (by
              have : j < zs.length := by have := HZ.out; omega
              simp [List.getD_eq_getElem?_getD, List.getElem?_eq_getElem this])
            have hd1 : decide ((j : Int) < 8) = true := decide_eq_true (by omega)
            have hd2 : (j : Int) < 8 := by omega
            gi_wp2
            refine ⟨⟨j + 1, hjq, ?_, by simp, trivial⟩, by simp [intOf]; omega⟩
            simp [wordOf]
          · obtain rfl : j = 8 := by omega
            gi_wp2
            refine hR.mono ?_
            rintro e W3 ⟨rfl, hJ3, hs3, hk3⟩
            have hb3 := (hk3 gb hgl hkg).trans hb
            have c3 : W3.cell? ⟨gb, 0, none⟩ = some (.slice (some b) m c) := (blk_cell hb3 0).trans rfl
            have f3 := blk_frozen hb3 0
            gi_wp2
            have ez8 : b.add 8 = { block := b.block, off := b.off + 8 } := by simp [Addr.add]
            have hb4 := blk_set hb3 0 (.slice (if c = 8 then some b else some { block := b.block, off := b.off + 8 }) (m - 8) (c - 8))
            have c4 := blk_cell hb4 0
            refine ⟨⟨if c = 8 then some b else some (b.add 8), m - 8, c - 8, zs.drop 8, pre ++ [wordOf zs 8], k, by have := HZ.out; simp; omega, by omega, by omega, by omega, by rw [List.append_assoc]; exact HP.out, ?_, ?_, ?_, ?_⟩, ?_⟩
            · rw [ez8]
              exact hb4
            · refine BytesAt.cut (BytesAt.moved HR.out ?_) 8 c (by have := HZ.out; omega)
              intro a e
              cases e
              have ha := HA.out b rfl
              exact (Below.heap_setCell _ _ _ _ ha.2.2).trans (hk3 _ ha.1 ha.2.1)
            · intro a ha
              have : a.block = b.block := by
                split at ha <;> (cases ha; first | rfl | rw [add_block])
              rw [this]
              exact HA.out b rfl
            · exact HJ.out _ _ _ hJ3 (ButBox.setCell gb W3 _)
            · rw [c4, c0]
              simp
              omega
attribute [local go_sem] Oper.semAt_some
def digest_Bytes.l (zs : List Int) : Int := digStep ((wordsOf (zs.length + 1) zs).foldl digStep 422944466291) (zs.length : Int)
set_option maxRecDepth 100000 in
set_option maxHeartbeats 4000000 in
theorem digest_Bytes.calls (ao : Option Addr) (m c : Nat) (zs : List Int) (hz : zs.length = m) (hm : m ≤ 1000000) (hc : m ≤ c) (w : World) (hr : BytesAt w ao zs) (hal : ∀ a, ao = some a → a.block < w.heap.size) :
    Calls Tryz.prog 112 #[.slice ao m c] w fun e w' => e = .returned (.int .u64 (digest_Bytes.l zs)) ∧ Below w.heap.size w w' := by
  have hu22 := Tryz.underlying22
  have hu173 := Tryz.underlying173
  have hu205 := Tryz.underlying205
  have HR := Lib.hid hr
  have HA := Lib.hid hal
  have HZ := Lib.hid hz
  clear hr hal
  refine (callsIn_wide (n := 5)).1 ?_
  refine callsIn_of_wp_marks Tryz.func112 rfl trivial ?_ rfl
  simp only [Tryz.ntmps112, List.size_toArray, List.length_cons, List.length_nil, Nat.reduceAdd, Nat.reduceSub, Array.replicate_succ, Array.replicate_zero, List.push_toArray, List.append_toArray, List.nil_append, List.cons_append]
  gi_wp2_with (refine ⟨trivial, ?_⟩; gi_at_call 141; refine (callsIn_wide.2 (digest_groups.calls ao m c _)).mono ?_; rintro e w' ⟨rfl, rfl⟩)
  have BS := blk_alloc (heap_alloc_new w (.cells #[.int .u64 422944466291] 173)) (.cells #[.slice ao m c] 22)
  have BG := heap_alloc_new (w.alloc (.cells #[.int .u64 422944466291] 173)) (.cells #[.slice ao m c] 22)
  have hB := ((Below.refl w.heap.size w).alloc (Nat.le_refl _) (.cells #[.int .u64 422944466291] 173)).alloc (by simp only [World.size_alloc]; omega) (.cells #[.slice ao m c] 22)
  have hW : ((w.alloc (.cells #[.int .u64 422944466291] 173)).alloc (.cells #[.slice ao m c] 22)).heap.size = w.heap.size + 2 := by simp
  simp only [World.size_alloc] at BG
  generalize (w.alloc (.cells #[.int .u64 422944466291] 173)).alloc (.cells #[.slice ao m c] 22) = W at *
  refine wpIn_rangeFunc_box rfl (by omega) (gf := 165) (lb := #[.pointer (some ⟨w.heap.size + 1, 0, none⟩)]) rfl trivial (enters_of Tryz.func165 (by kernel_rfl) rfl) (encs := fun x => #[.int .u64 x]) (fun _ => rfl) (w.heap.size + 1) (by omega) (fun k => k ≠ w.heap.size) (wordsOf (m + 1) zs)
    (fun pre V => V.heap[w.heap.size]? = some (.cells #[.int .u64 (pre.foldl digStep 422944466291)] 173 (0, 0)) ∧ Below w.heap.size w V) ?seq ?hI ?hIp ?h0 (fun x => { tmps := #[.slice ao m c, undef, .int .u64 0, .pointer (some ⟨w.heap.size, 0, none⟩), .int .u64 x, .slice ao m c, .func (.func 165) #[] #[.pointer (some ⟨w.heap.size + 1, 0, none⟩)], .int .u64 x, undef, undef, undef, undef, undef, undef, undef, undef, undef], defers := [] }) ?assign ?body ?done
  case seq =>
    intro J W1 hb1 hJ hY h0
    refine digest_groups_1.gives Fence.wide _ trivial rfl (by omega) _ (w.heap.size + 1) W.heap.size (by omega) (fun k => k ≠ w.heap.size) (by omega) J hJ hY ao m c zs hz hm hc W1 ((hb1.block _ (by omega)).trans BG) (HR.out.moved ?_) ?_ h0
    · intro a e
      have := HA.out a e
      exact (hb1.block _ (by omega)).trans (hB.block _ this)
    · intro a e
      have := HA.out a e
      exact ⟨by omega, by omega, by omega⟩
  case hI =>
    rintro pre A B ⟨h1, h2⟩ hk
    exact ⟨(hk.block _ (by omega)).trans h1, ⟨hk.os.trans h2.os, hk.tape.trans h2.tape, hk.output.trans h2.output, hk.size ▸ h2.size, fun k hkl => (hk.block k (by omega)).trans (h2.block k hkl)⟩⟩
  case hIp =>
    rintro pre V l o hl ⟨h1, h2⟩
    exact ⟨(World.putObj_heap_other (by omega)).trans h1, ⟨h2.os, h2.tape, h2.output, by simpa using h2.size, fun k hkl => (World.putObj_heap_other (by omega)).trans (h2.block k hkl)⟩⟩
  case h0 =>
    intro V hV
    exact ⟨(hV.block _ (by omega)).trans BS, hB.trans (hV.mono (by omega))⟩
  case assign =>
    intro l x V K hK
    gi_wp2
    exact hK
  case body =>
    rintro l pre x V ⟨h1, h2⟩
    have hlt : w.heap.size < V.heap.size := blk_lt h1
    have k0 : (V.alloc (.cells #[.int .u64 x] 133)).cell? ⟨w.heap.size, 0, none⟩ = some (.int .u64 (pre.foldl digStep 422944466291)) := (blk_cell (blk_alloc h1 _) 0).trans rfl
    have k1 : (V.alloc (.cells #[.int .u64 x] 133)).frozen? ⟨w.heap.size, 0, none⟩ = false := blk_frozen (blk_alloc h1 _) 0
    have k2 : (V.alloc (.cells #[.int .u64 x] 133)).cell? ⟨V.heap.size, 0, none⟩ = some (.int .u64 x) := by simp [go_sem]
    have hwp : 1 ≤ 5 - 1 - 1 := by omega
    gi_wp2
    refine ⟨trivial, (CallsIn.inRound l (callsIn_wide.2 (digest_add.one _ _ _ _ _ _ k0 k1 k2))).mono ?_⟩
    rintro e w' ⟨rfl, rfl⟩
    have B5 := blk_set (blk_alloc h1 (.cells #[.int .u64 x] 133)) 0 (.int .u64 (digStep (pre.foldl digStep 422944466291) x))
    have hB2 := below_set (j := 0) (g := w.heap.size) (v := .int .u64 (digStep (pre.foldl digStep 422944466291) x)) (h2.alloc h2.size (.cells #[.int .u64 x] 133)) (Nat.le_refl _)
    have hk2 : ∀ k, k < V.heap.size → (k < W.heap.size → k ≠ w.heap.size) → ((V.alloc (.cells #[.int .u64 x] 133)).setCell ⟨w.heap.size, 0, none⟩ (.int .u64 (digStep (pre.foldl digStep 422944466291) x))).heap[k]? = V.heap[k]? := by
      intro k hk hkk
      have hne : k ≠ w.heap.size := by
        intro e
        subst e
        exact hkk (by omega) rfl
      exact (Below.heap_setCell _ _ _ _ hne).trans (Below.heap_alloc V _ k hk)
    have hs2 : V.heap.size ≤ ((V.alloc (.cells #[.int .u64 x] 133)).setCell ⟨w.heap.size, 0, none⟩ (.int .u64 (digStep (pre.foldl digStep 422944466291) x))).heap.size := by simp
    generalize (V.alloc (.cells #[.int .u64 x] 133)).setCell ⟨w.heap.size, 0, none⟩ (.int .u64 (digStep (pre.foldl digStep 422944466291) x)) = U at *
    have H5 := Lib.hid B5
    have H2 := Lib.hid hB2
    have HK := Lib.hid hk2
    clear B5 hB2 hk2
    gi_wp2
    refine ⟨⟨H5.out, H2.out⟩, ?_⟩
    exact fun k a b => HK.out k a (by rw [hW]; exact b)
  case done =>
    intro D V hD ⟨h1, h2⟩ hK
    have hlt : w.heap.size < V.heap.size := blk_lt h1
    have hDl : D < V.heap.size := (Array.getElem?_eq_some_iff.1 hK).1
    have k0 : (V.alloc (.cells #[.int .u64 (m : Int)] 133)).cell? ⟨w.heap.size, 0, none⟩ = some (.int .u64 ((wordsOf (m + 1) zs).foldl digStep 422944466291)) := (blk_cell (blk_alloc h1 _) 0).trans rfl
    have k1 : (V.alloc (.cells #[.int .u64 (m : Int)] 133)).frozen? ⟨w.heap.size, 0, none⟩ = false := blk_frozen (blk_alloc h1 _) 0
    have k2 : (V.alloc (.cells #[.int .u64 (m : Int)] 133)).cell? ⟨V.heap.size, 0, none⟩ = some (.int .u64 (m : Int)) := by simp [go_sem]
    gi_wp2
    refine ⟨trivial, (callsIn_wide.2 (digest_add.one _ _ _ _ _ _ k0 k1 k2)).mono ?_⟩
    rintro e w' ⟨rfl, rfl⟩
    have B5 := blk_set (blk_alloc h1 (.cells #[.int .u64 (m : Int)] 133)) 0 (.int .u64 (digStep ((wordsOf (m + 1) zs).foldl digStep 422944466291) (m : Int)))
    have k5 := blk_cell B5 0
    have hK2 : (((V.alloc (.cells #[.int .u64 (m : Int)] 133)).setCell ⟨w.heap.size, 0, none⟩ (.int .u64 (digStep ((wordsOf (m + 1) zs).foldl digStep 422944466291) (m : Int))))).heap[D]? = some (.deferred (some [])) := (Below.heap_setCell _ _ _ _ (by show D ≠ w.heap.size; omega)).trans ((Below.heap_alloc V _ D hDl).trans hK)
    have hB2 := below_set (j := 0) (g := w.heap.size) (v := .int .u64 (digStep ((wordsOf (m + 1) zs).foldl digStep 422944466291) (m : Int))) (h2.alloc h2.size (.cells #[.int .u64 (m : Int)] 133)) (Nat.le_refl _)
    generalize (V.alloc (.cells #[.int .u64 (m : Int)] 133)).setCell ⟨w.heap.size, 0, none⟩ (.int .u64 (digStep ((wordsOf (m + 1) zs).foldl digStep 422944466291) (m : Int))) = U at *
    gi_wp2
    refine ⟨by simp, .inl ⟨_, _, rfl, run_takeDeferred hK2, ?_⟩⟩
    refine ⟨_, results_tmp rfl _ _ _, ?_, ?_⟩
    · simp [digest_Bytes.l, HZ.out]
    · exact ⟨hB2.os, hB2.tape, hB2.output, by simpa using hB2.size, fun k hkl => (World.putObj_heap_other (by omega)).trans (hB2.block k hkl)⟩
end Go.Proofs.YteflfnjljjianaaGreatDoor.Qx
namespace Go.Proofs.YteflfnjljjianaaGreatDoor.Qx
open Go.RowKit Go.Proofs.YteflfnjljjianaaGreatDoorW.PrintWords Go.Proofs.YteflfnjljjianaaGreatDoorW.PrintLast Go.Proofs.YteflfnjljjianaaGreatDoorW.PrintMore
attribute [local go_sem] max2_int min2_int max_two min_two
set_option linter.unusedVariables false
set_option linter.unusedSimpArgs false
def bitpack_Zigzag.f (a0 : Int) : Option (Int) := some (Go.bits .xor .u64 (IntKind.u64.wrap ((IntKind.u64.wrap (a0)) * 2)) (IntKind.u64.wrap (a0 / 9223372036854775808)))
set_option maxHeartbeats 8000000 in
set_option maxRecDepth 100000 in
theorem bitpack_Zigzag.calls (a0 : Int) (r : Int) (w : World) (h : bitpack_Zigzag.f a0 = some r) :
    Calls Tryz.prog 145 #[.int .i64 a0] w fun e w' => e = .returned (.int .u64 r) ∧ Drawn0 w w' := by
  have H : (some (Go.bits .xor .u64 (IntKind.u64.wrap ((IntKind.u64.wrap (a0)) * 2)) (IntKind.u64.wrap (a0 / 9223372036854775808)))) = some r := h
  clear h
  obtain rfl := Option.some.inj H
  go_enter Tryz.func145, Tryz.ntmps145
  go_wp2
  go_ret
  exact ⟨by first | rfl | (simp; done) | (simp [*]; done), by repeat (first | exact Drawn0.refl _ | apply Drawn0.step)⟩
end Go.Proofs.YteflfnjljjianaaGreatDoor.Qx
