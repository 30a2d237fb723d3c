/- Part of a proof of PartitionBucketsCardSaid: functions of the given program and what they compute, each checked by the kernel. -/
import Derived.Test.YteflfnjljjianaaGreatDoorPK02
import Derived.Test.YteflfnjljjianaaGreatDoorPK07
import Derived.Deep.RegionWith
import Derived.Shelf.SlSortCmp.WholeK
import Derived.Shelf.SlGeneric
import Derived.Ground.SlsfProg
import Derived.Test.YteflfnjljjianaaGreatDoorProg
namespace Go.Proofs.YteflfnjljjianaaGreatDoor.Qx
open Go.RowKit Go.Proofs.YteflfnjljjianaaGreatDoorW.PrintWords Go.Proofs.YteflfnjljjianaaGreatDoorW.PrintLast Go.Proofs.YteflfnjljjianaaGreatDoorW.PrintMore
attribute [local go_sem] max2_int min2_int max_two min_two
set_option linter.unusedVariables false
set_option linter.unusedSimpArgs false
abbrev boolMapE : Array MapEntry := #[⟨.bool false, .agg #[.int .i64 1, .int .i64 0, .string ⟨#[]⟩], 0⟩, ⟨.bool true, .agg #[.int .i64 1, .int .i64 1, .string ⟨#[]⟩], 1⟩]
theorem lookF (g : Nat) : ∀ W : World, W.heap[g]? = some (.map boolMapE 2) → (Instr.lookup 200 (.map (some g)) (.bool false) false).run Tryz.prog W = .ok (.agg #[.int .i64 1, .int .i64 0, .string ⟨#[]⟩]) W := fun _ h => boolMap.f h
theorem lookT (g : Nat) : ∀ W : World, W.heap[g]? = some (.map boolMapE 2) → (Instr.lookup 200 (.map (some g)) (.bool true) false).run Tryz.prog W = .ok (.agg #[.int .i64 1, .int .i64 1, .string ⟨#[]⟩]) W := fun _ h => boolMap.t h
theorem setOther (B g : Nat) (h : g ≠ B) : ∀ (W : World) (i : Nat) (u : Value), (W.setCell ⟨B, i, none⟩ u).heap[g]? = W.heap[g]? := fun W i u => Below.heap_setCell W ⟨B, i, none⟩ u g h
set_option maxRecDepth 100000 in
set_option maxHeartbeats 4000000 in
theorem bounds_truth.tt (u : Bool) (w : World) :
    Calls Tryz.prog 198 #[.bool true, .bool true, .bool u] w fun e w' => e = .returned (.agg #[.bool u, .bool true, .int .i64 1, .int .i64 0, .string ⟨#[]⟩, .int .i64 1, .int .i64 1, .string ⟨#[]⟩]) ∧ Below w.heap.size w w' := by
  have hu161 := Tryz.underlying161
  have hu35 := Tryz.underlying35
  go_enter Tryz.func198, Tryz.ntmps198
  go_wp2
  have BK6 := heap_alloc_new w (.cells #[.bool false, .bool false, .int .i64 0, .int .i64 0, .string ⟨#[]⟩, .int .i64 0, .int .i64 0, .string ⟨#[]⟩] 161)
  have BK7 := heap_alloc_new (w.alloc (.cells #[.bool false, .bool false, .int .i64 0, .int .i64 0, .string ⟨#[]⟩, .int .i64 0, .int .i64 0, .string ⟨#[]⟩] 161)) (.cells #[.bool u, .bool true, .int .i64 0, .int .i64 0, .string ⟨#[]⟩, .int .i64 0, .int .i64 0, .string ⟨#[]⟩] 161)
  have BK6' := blk_alloc BK6 (.cells #[.bool u, .bool true, .int .i64 0, .int .i64 0, .string ⟨#[]⟩, .int .i64 0, .int .i64 0, .string ⟨#[]⟩] 161)
  have hB := Lib.hid (((Below.refl _ w).alloc (Nat.le_refl _) (.cells #[.bool false, .bool false, .int .i64 0, .int .i64 0, .string ⟨#[]⟩, .int .i64 0, .int .i64 0, .string ⟨#[]⟩] 161)).alloc (by simp only [World.size_alloc]; omega) (.cells #[.bool u, .bool true, .int .i64 0, .int .i64 0, .string ⟨#[]⟩, .int .i64 0, .int .i64 0, .string ⟨#[]⟩] 161))
  simp only [World.size_alloc] at BK7
  clear BK6
  generalize (w.alloc (.cells #[.bool false, .bool false, .int .i64 0, .int .i64 0, .string ⟨#[]⟩, .int .i64 0, .int .i64 0, .string ⟨#[]⟩] 161)).alloc (.cells #[.bool u, .bool true, .int .i64 0, .int .i64 0, .string ⟨#[]⟩, .int .i64 0, .int .i64 0, .string ⟨#[]⟩] 161) = W at *
  have lt6 : w.heap.size < W.heap.size := blk_lt BK6'
  have lt7 : w.heap.size + 1 < W.heap.size := blk_lt BK7
  go_region_with (first
    | (go_at_call 157
       refine (bounds_bools.made _).mono ?_
       rintro e w2 ⟨g2, rfl, hm2, hg2, hb2⟩
       have e1 : w2.heap[g1]? = some (.map boolMapE 2) := boolMap.below d1 hb2
       have e2 : w2.heap[g2]? = some (.map boolMapE 2) := hm2
       have f2 := lookF g2
       have t2 := lookT g2
       have s2 := setOther (w.heap.size + 1) g2 (by have h1 : W.heap.size ≤ w1.heap.size := hb1.size; omega)
       have K7 := blk_below B1 hb2
       have K6 := blk_below B6 hb2
       have z0 := blk_cell K7 0
       have x0 := blk_cell K6 0
       have v0 := blk_frozen K6 0
       have z1 := blk_cell K7 1
       have x1 := blk_cell K6 1
       have v1 := blk_frozen K6 1
       have z2 := blk_cell K7 2
       have x2 := blk_cell K6 2
       have v2 := blk_frozen K6 2
       have z3 := blk_cell K7 3
       have x3 := blk_cell K6 3
       have v3 := blk_frozen K6 3
       have z4 := blk_cell K7 4
       have x4 := blk_cell K6 4
       have v4 := blk_frozen K6 4
       have z5 := blk_cell K7 5
       have x5 := blk_cell K6 5
       have v5 := blk_frozen K6 5
       have z6 := blk_cell K7 6
       have x6 := blk_cell K6 6
       have v6 := blk_frozen K6 6
       have z7 := blk_cell K7 7
       have x7 := blk_cell K6 7
       have v7 := blk_frozen K6 7
       have y2 := blk_frozen K7 2
       have y3 := blk_frozen K7 3
       have y4 := blk_frozen K7 4
       have y5 := blk_frozen K7 5
       have y6 := blk_frozen K7 6
       have y7 := blk_frozen K7 7)
    | (go_at_call 157
       refine (bounds_bools.made _).mono ?_
       rintro e w1 ⟨g1, rfl, hm1, hg1, hb1⟩
       have d1 := hm1
       have e0 : w1.heap[g1]? = some (.map boolMapE 2) := hm1
       have f1 := lookF g1
       have t1 := lookT g1
       have s1 := setOther (w.heap.size + 1) g1 (by have h1 : W.heap.size ≤ g1 := hg1; omega)
       have B1 := blk_below (blk_drew BK7) hb1
       have B6 := blk_below (blk_drew BK6') hb1))
  all_goals
    have hE := Lib.hid (below_then hB.out hB.out.size (Below.trans (below_drew1 (Below.refl _ W)) (hb1.trans ⟨hb2.os, hb2.tape, hb2.output, hb2.size, fun i hi => hb2.block i (Nat.lt_of_lt_of_le hi hb1.size)⟩)))
    go_wp2
    refine bodyPost_ret (v := .agg #[.bool u, .bool true, .int .i64 1, .int .i64 0, .string ⟨#[]⟩, .int .i64 1, .int .i64 1, .string ⟨#[]⟩]) (by simp [results, Tryz.results198, go_sem, *]) rfl ⟨rfl, ?_⟩
    repeat (refine below_set ?_ (by first | exact Nat.le_refl _ | exact Nat.le_add_right _ _))
    exact hE.out
set_option maxRecDepth 100000 in
set_option maxHeartbeats 4000000 in
theorem bounds_truth.tf (u : Bool) (w : World) :
    Calls Tryz.prog 198 #[.bool true, .bool false, .bool u] w fun e w' => e = .returned (.agg #[.bool u, .bool true, .int .i64 1, .int .i64 0, .string ⟨#[]⟩, .int .i64 1, .int .i64 0, .string ⟨#[]⟩]) ∧ Below w.heap.size w w' := by
  have hu161 := Tryz.underlying161
  have hu35 := Tryz.underlying35
  go_enter Tryz.func198, Tryz.ntmps198
  go_wp2
  have BK6 := heap_alloc_new w (.cells #[.bool false, .bool false, .int .i64 0, .int .i64 0, .string ⟨#[]⟩, .int .i64 0, .int .i64 0, .string ⟨#[]⟩] 161)
  have BK7 := heap_alloc_new (w.alloc (.cells #[.bool false, .bool false, .int .i64 0, .int .i64 0, .string ⟨#[]⟩, .int .i64 0, .int .i64 0, .string ⟨#[]⟩] 161)) (.cells #[.bool u, .bool true, .int .i64 0, .int .i64 0, .string ⟨#[]⟩, .int .i64 0, .int .i64 0, .string ⟨#[]⟩] 161)
  have BK6' := blk_alloc BK6 (.cells #[.bool u, .bool true, .int .i64 0, .int .i64 0, .string ⟨#[]⟩, .int .i64 0, .int .i64 0, .string ⟨#[]⟩] 161)
  have hB := Lib.hid (((Below.refl _ w).alloc (Nat.le_refl _) (.cells #[.bool false, .bool false, .int .i64 0, .int .i64 0, .string ⟨#[]⟩, .int .i64 0, .int .i64 0, .string ⟨#[]⟩] 161)).alloc (by simp only [World.size_alloc]; omega) (.cells #[.bool u, .bool true, .int .i64 0, .int .i64 0, .string ⟨#[]⟩, .int .i64 0, .int .i64 0, .string ⟨#[]⟩] 161))
  simp only [World.size_alloc] at BK7
  clear BK6
  generalize (w.alloc (.cells #[.bool false, .bool false, .int .i64 0, .int .i64 0, .string ⟨#[]⟩, .int .i64 0, .int .i64 0, .string ⟨#[]⟩] 161)).alloc (.cells #[.bool u, .bool true, .int .i64 0, .int .i64 0, .string ⟨#[]⟩, .int .i64 0, .int .i64 0, .string ⟨#[]⟩] 161) = W at *
  have lt6 : w.heap.size < W.heap.size := blk_lt BK6'
  have lt7 : w.heap.size + 1 < W.heap.size := blk_lt BK7
  go_region_with (first
    | (go_at_call 157
       refine (bounds_bools.made _).mono ?_
       rintro e w2 ⟨g2, rfl, hm2, hg2, hb2⟩
       have e1 : w2.heap[g1]? = some (.map boolMapE 2) := boolMap.below d1 hb2
       have e2 : w2.heap[g2]? = some (.map boolMapE 2) := hm2
       have f2 := lookF g2
       have t2 := lookT g2
       have s2 := setOther (w.heap.size + 1) g2 (by have h1 : W.heap.size ≤ w1.heap.size := hb1.size; omega)
       have K7 := blk_below B1 hb2
       have K6 := blk_below B6 hb2
       have z0 := blk_cell K7 0
       have x0 := blk_cell K6 0
       have v0 := blk_frozen K6 0
       have z1 := blk_cell K7 1
       have x1 := blk_cell K6 1
       have v1 := blk_frozen K6 1
       have z2 := blk_cell K7 2
       have x2 := blk_cell K6 2
       have v2 := blk_frozen K6 2
       have z3 := blk_cell K7 3
       have x3 := blk_cell K6 3
       have v3 := blk_frozen K6 3
       have z4 := blk_cell K7 4
       have x4 := blk_cell K6 4
       have v4 := blk_frozen K6 4
       have z5 := blk_cell K7 5
       have x5 := blk_cell K6 5
       have v5 := blk_frozen K6 5
       have z6 := blk_cell K7 6
       have x6 := blk_cell K6 6
       have v6 := blk_frozen K6 6
       have z7 := blk_cell K7 7
       have x7 := blk_cell K6 7
       have v7 := blk_frozen K6 7
       have y2 := blk_frozen K7 2
       have y3 := blk_frozen K7 3
       have y4 := blk_frozen K7 4
       have y5 := blk_frozen K7 5
       have y6 := blk_frozen K7 6
       have y7 := blk_frozen K7 7)
    | (go_at_call 157
       refine (bounds_bools.made _).mono ?_
       rintro e w1 ⟨g1, rfl, hm1, hg1, hb1⟩
       have d1 := hm1
       have e0 : w1.heap[g1]? = some (.map boolMapE 2) := hm1
       have f1 := lookF g1
       have t1 := lookT g1
       have s1 := setOther (w.heap.size + 1) g1 (by have h1 : W.heap.size ≤ g1 := hg1; omega)
       have B1 := blk_below (blk_drew BK7) hb1
       have B6 := blk_below (blk_drew BK6') hb1))
  all_goals
    have hE := Lib.hid (below_then hB.out hB.out.size (Below.trans (below_drew1 (Below.refl _ W)) (hb1.trans ⟨hb2.os, hb2.tape, hb2.output, hb2.size, fun i hi => hb2.block i (Nat.lt_of_lt_of_le hi hb1.size)⟩)))
    go_wp2
    refine bodyPost_ret (v := .agg #[.bool u, .bool true, .int .i64 1, .int .i64 0, .string ⟨#[]⟩, .int .i64 1, .int .i64 0, .string ⟨#[]⟩]) (by simp [results, Tryz.results198, go_sem, *]) rfl ⟨rfl, ?_⟩
    repeat (refine below_set ?_ (by first | exact Nat.le_refl _ | exact Nat.le_add_right _ _))
    exact hE.out
set_option maxRecDepth 100000 in
set_option maxHeartbeats 4000000 in
theorem bounds_truth.ft (u : Bool) (w : World) :
    Calls Tryz.prog 198 #[.bool false, .bool true, .bool u] w fun e w' => e = .returned (.agg #[.bool u, .bool true, .int .i64 1, .int .i64 1, .string ⟨#[]⟩, .int .i64 1, .int .i64 1, .string ⟨#[]⟩]) ∧ Below w.heap.size w w' := by
  have hu161 := Tryz.underlying161
  have hu35 := Tryz.underlying35
  go_enter Tryz.func198, Tryz.ntmps198
  go_wp2
  have BK6 := heap_alloc_new w (.cells #[.bool false, .bool false, .int .i64 0, .int .i64 0, .string ⟨#[]⟩, .int .i64 0, .int .i64 0, .string ⟨#[]⟩] 161)
  have BK7 := heap_alloc_new (w.alloc (.cells #[.bool false, .bool false, .int .i64 0, .int .i64 0, .string ⟨#[]⟩, .int .i64 0, .int .i64 0, .string ⟨#[]⟩] 161)) (.cells #[.bool u, .bool true, .int .i64 0, .int .i64 0, .string ⟨#[]⟩, .int .i64 0, .int .i64 0, .string ⟨#[]⟩] 161)
  have BK6' := blk_alloc BK6 (.cells #[.bool u, .bool true, .int .i64 0, .int .i64 0, .string ⟨#[]⟩, .int .i64 0, .int .i64 0, .string ⟨#[]⟩] 161)
  have hB := Lib.hid (((Below.refl _ w).alloc (Nat.le_refl _) (.cells #[.bool false, .bool false, .int .i64 0, .int .i64 0, .string ⟨#[]⟩, .int .i64 0, .int .i64 0, .string ⟨#[]⟩] 161)).alloc (by simp only [World.size_alloc]; omega) (.cells #[.bool u, .bool true, .int .i64 0, .int .i64 0, .string ⟨#[]⟩, .int .i64 0, .int .i64 0, .string ⟨#[]⟩] 161))
  simp only [World.size_alloc] at BK7
  clear BK6
  generalize (w.alloc (.cells #[.bool false, .bool false, .int .i64 0, .int .i64 0, .string ⟨#[]⟩, .int .i64 0, .int .i64 0, .string ⟨#[]⟩] 161)).alloc (.cells #[.bool u, .bool true, .int .i64 0, .int .i64 0, .string ⟨#[]⟩, .int .i64 0, .int .i64 0, .string ⟨#[]⟩] 161) = W at *
  have lt6 : w.heap.size < W.heap.size := blk_lt BK6'
  have lt7 : w.heap.size + 1 < W.heap.size := blk_lt BK7
  go_region_with (first
    | (go_at_call 157
       refine (bounds_bools.made _).mono ?_
       rintro e w2 ⟨g2, rfl, hm2, hg2, hb2⟩
       have e1 : w2.heap[g1]? = some (.map boolMapE 2) := boolMap.below d1 hb2
       have e2 : w2.heap[g2]? = some (.map boolMapE 2) := hm2
       have f2 := lookF g2
       have t2 := lookT g2
       have s2 := setOther (w.heap.size + 1) g2 (by have h1 : W.heap.size ≤ w1.heap.size := hb1.size; omega)
       have K7 := blk_below B1 hb2
       have K6 := blk_below B6 hb2
       have z0 := blk_cell K7 0
       have x0 := blk_cell K6 0
       have v0 := blk_frozen K6 0
       have z1 := blk_cell K7 1
       have x1 := blk_cell K6 1
       have v1 := blk_frozen K6 1
       have z2 := blk_cell K7 2
       have x2 := blk_cell K6 2
       have v2 := blk_frozen K6 2
       have z3 := blk_cell K7 3
       have x3 := blk_cell K6 3
       have v3 := blk_frozen K6 3
       have z4 := blk_cell K7 4
       have x4 := blk_cell K6 4
       have v4 := blk_frozen K6 4
       have z5 := blk_cell K7 5
       have x5 := blk_cell K6 5
       have v5 := blk_frozen K6 5
       have z6 := blk_cell K7 6
       have x6 := blk_cell K6 6
       have v6 := blk_frozen K6 6
       have z7 := blk_cell K7 7
       have x7 := blk_cell K6 7
       have v7 := blk_frozen K6 7
       have y2 := blk_frozen K7 2
       have y3 := blk_frozen K7 3
       have y4 := blk_frozen K7 4
       have y5 := blk_frozen K7 5
       have y6 := blk_frozen K7 6
       have y7 := blk_frozen K7 7)
    | (go_at_call 157
       refine (bounds_bools.made _).mono ?_
       rintro e w1 ⟨g1, rfl, hm1, hg1, hb1⟩
       have d1 := hm1
       have e0 : w1.heap[g1]? = some (.map boolMapE 2) := hm1
       have f1 := lookF g1
       have t1 := lookT g1
       have s1 := setOther (w.heap.size + 1) g1 (by have h1 : W.heap.size ≤ g1 := hg1; omega)
       have B1 := blk_below (blk_drew BK7) hb1
       have B6 := blk_below (blk_drew BK6') hb1))
  all_goals
    have hE := Lib.hid (below_then hB.out hB.out.size (Below.trans (below_drew1 (Below.refl _ W)) (hb1.trans ⟨hb2.os, hb2.tape, hb2.output, hb2.size, fun i hi => hb2.block i (Nat.lt_of_lt_of_le hi hb1.size)⟩)))
    go_wp2
    refine bodyPost_ret (v := .agg #[.bool u, .bool true, .int .i64 1, .int .i64 1, .string ⟨#[]⟩, .int .i64 1, .int .i64 1, .string ⟨#[]⟩]) (by simp [results, Tryz.results198, go_sem, *]) rfl ⟨rfl, ?_⟩
    repeat (refine below_set ?_ (by first | exact Nat.le_refl _ | exact Nat.le_add_right _ _))
    exact hE.out
set_option maxRecDepth 100000 in
set_option maxHeartbeats 4000000 in
theorem bounds_truth.ff (u : Bool) (w : World) :
    Calls Tryz.prog 198 #[.bool false, .bool false, .bool u] w fun e w' => e = .returned (.agg #[.bool u, .bool false, .int .i64 0, .int .i64 0, .string ⟨#[]⟩, .int .i64 0, .int .i64 0, .string ⟨#[]⟩]) ∧ Below w.heap.size w w' := by
  have hu161 := Tryz.underlying161
  have hu35 := Tryz.underlying35
  go_enter Tryz.func198, Tryz.ntmps198
  go_wp2
  refine bodyPost_ret (v := .agg #[.bool u, .bool false, .int .i64 0, .int .i64 0, .string ⟨#[]⟩, .int .i64 0, .int .i64 0, .string ⟨#[]⟩]) (by simp [results, Tryz.results198, go_sem, *]) rfl ⟨rfl, ?_⟩
  first
    | exact ((Below.refl _ w).alloc (Nat.le_refl _) _).alloc (by simp only [World.size_alloc]; omega) _
    | (repeat (refine below_set ?_ (by first | exact Nat.le_refl _ | exact Nat.le_add_right _ _)); exact ((Below.refl _ w).alloc (Nat.le_refl _) _).alloc (by simp only [World.size_alloc]; omega) _)
def b2i (b : Bool) : Int := if b = true then 1 else 0
def bounds_truth.f (a0 a1 a2 : Bool) : Option (Bool × Bool × Int × Int × ByteArray × Int × Int × ByteArray) := if (a0 || a1) = true then some (a2, true, 1, b2i (!a0), ⟨#[]⟩, 1, b2i a1, ⟨#[]⟩) else some (a2, false, 0, 0, ⟨#[]⟩, 0, 0, ⟨#[]⟩)
theorem bounds_truth.calls (a0 a1 a2 : Bool) (r1 r2 : Bool) (r3 r4 : Int) (r5 : ByteArray) (r6 r7 : Int) (r8 : ByteArray) (w : World) (h : bounds_truth.f a0 a1 a2 = some (r1, r2, r3, r4, r5, r6, r7, r8)) :
    Calls Tryz.prog 198 #[.bool a0, .bool a1, .bool a2] w fun e w' => e = .returned (.agg #[.bool r1, .bool r2, .int .i64 r3, .int .i64 r4, .string r5, .int .i64 r6, .int .i64 r7, .string r8]) ∧ Below w.heap.size w w' := by
  cases a0 <;> cases a1 <;> simp [bounds_truth.f, b2i] at h <;> obtain ⟨rfl, rfl, rfl, rfl, rfl, rfl, rfl, rfl⟩ := h
  · exact bounds_truth.ff a2 w
  · exact bounds_truth.ft a2 w
  · exact bounds_truth.tf a2 w
  · exact bounds_truth.tt a2 w
end Go.Proofs.YteflfnjljjianaaGreatDoor.Qx
namespace Go.Proofs.YteflfnjljjianaaGreatDoor.Qx
open Go.RowKit Go.Proofs.YteflfnjljjianaaGreatDoorW.PrintWords Go.Proofs.YteflfnjljjianaaGreatDoorW.PrintLast Go.Proofs.YteflfnjljjianaaGreatDoorW.PrintMore
attribute [local go_sem] max2_int min2_int max_two min_two
set_option linter.unusedVariables false
set_option linter.unusedSimpArgs false
def value_first_int.l0 : Nat → Int → List Int → Int → Int → Option (Int)
  | 0, _, _, _, _ => none
  | k + 1, x3, x6, x7, x8 => if x8 < x7 then (if 0 ≤ x8 then (if x8 < (x6.length : Int) then (if (rd x6 x8) = x3 then (value_first_int.l0 k x3 x6 x7 (wrap64 (x8 + 1))) else (some (rd x6 x8))) else (none)) else (none)) else (some x3)
def value_first_int.f (k : Nat) (l0 : List Int) : Option (Int) := value_first_int.l0 k 0 l0 (l0.length : Int) 0
set_option maxHeartbeats 8000000 in
set_option maxRecDepth 100000 in
theorem value_first_int.calls (k : Nat) (A0 : Option Addr) (c0 : Nat) (l0 : List Int) (r : Int) (w : World) (hr0 : Kd.C (Kd.int .i64) w A0 l0.length l0) (hc0 : l0.length ≤ c0) (h : value_first_int.f k l0 = some r) :
    Calls Tryz.prog 105 #[.slice A0 l0.length c0] w fun e w' => e = .returned (.int .i64 r) ∧ Drawn0 w w' := by
  have HR0 := Aside0.mk hr0
  have HC0 := Aside0.mk hc0
  clear hr0 hc0
  have H : (value_first_int.l0 k 0 l0 (l0.length : Int) 0) = some r := h
  clear h
  have H' := Aside0.mk H
  clear H
  go_enter Tryz.func105, Tryz.ntmps105
  go_wp2
  go_loopg [8] k (fun kq v8 w' => ∃ (x8_1 : Int), v8 = .int .i64 x8_1 ∧ Aside0 (value_first_int.l0 kq 0 l0 (l0.length : Int) x8_1 = some r) ∧ Aside0 (kq ≤ k) ∧ Drawn0 w w')
  case atStart => exact ⟨(0), (by first | rfl | (simp; done) | (simp [*]; done)), H', ⟨Nat.le_refl _⟩, by repeat (first | exact Drawn0.refl _ | apply Drawn0.step)⟩
  case round =>
    clear H'
    try clear c1
    obtain ⟨x8_1, rfl, HA, HK1, ⟨m1, rfl⟩⟩ := hrel
    cases gk with
    | zero => exact absurd HA.out (by simp [value_first_int.l0])
    | succ k1 =>
      have H := HA.out
      clear HA
      simp only [value_first_int.l0] at H
      by_cases c2 : x8_1 < (l0.length : Int)
      · rw [if_pos c2] at H
        have c2b0 : decide (x8_1 < (l0.length : Int)) = true := decide_eq_true c2
        clear c2
        by_cases c3 : 0 ≤ x8_1
        · rw [if_pos c3] at H
          have c3b0 : decide (0 ≤ x8_1) = true := decide_eq_true c3
          clear c3
          by_cases c4 : x8_1 < (l0.length : Int)
          · rw [if_pos c4] at H
            have c4b0 : decide (x8_1 < (l0.length : Int)) = true := decide_eq_true c4
            clear c4
            by_cases c5 : (rd l0 x8_1) = 0
            · rw [if_pos c5] at H
              have c5b0 : ((rd l0 x8_1) == 0) = true := beq_iff_eq.mpr c5
              have c5b1 : ((rd l0 x8_1) != 0) = false := bne_eq_false_iff_eq.mpr c5
              clear c5
              have H' := Aside0.mk H
              clear H
              have p101 : 0 ≤ (x8_1 : Int) := of_decide_eq_true (by first | (with_reducible assumption) | assumption)
              have q101 : x8_1 < (l0.length : Int) := of_decide_eq_true (by first | (with_reducible assumption) | assumption)
              obtain ⟨ad101, e101, hx101_0⟩ := Kd.at_int HR0.out x8_1 p101 q101
              cases e101
              replace p101 := eq_true p101
              replace q101 := eq_true q101
              go_wp2
              go_roundg k1
              case measure => have := HK1.out; omega
              case rel => exact ⟨(wrap64 (x8_1 + 1)), (by first | rfl | (simp; done) | (simp [*]; done)), H', ⟨by have := HK1.out; omega⟩, by repeat (first | exact Drawn0.refl _ | apply Drawn0.step)⟩
            · rw [if_neg c5] at H
              have c5b0 : ((rd l0 x8_1) == 0) = false := beq_eq_false_iff_ne.mpr c5
              have c5b1 : ((rd l0 x8_1) != 0) = true := bne_iff_ne.mpr c5
              obtain rfl := Option.some.inj H
              have p101 : 0 ≤ (x8_1 : Int) := of_decide_eq_true (by first | (with_reducible assumption) | assumption)
              have q101 : x8_1 < (l0.length : Int) := of_decide_eq_true (by first | (with_reducible assumption) | assumption)
              obtain ⟨ad101, e101, hx101_0⟩ := Kd.at_int HR0.out x8_1 p101 q101
              cases e101
              replace p101 := eq_true p101
              replace q101 := eq_true q101
              go_wp2
              go_ret
              exact ⟨by first | rfl | (simp; done) | (simp [*]; done), by repeat (first | exact Drawn0.refl _ | apply Drawn0.step)⟩
          · rw [if_neg c4] at H
            exact absurd H (by simp)
        · rw [if_neg c3] at H
          exact absurd H (by simp)
      · rw [if_neg c2] at H
        have c2b0 : decide (x8_1 < (l0.length : Int)) = false := decide_eq_false c2
        clear c2
        obtain rfl := Option.some.inj H
        go_wp2
        go_ret
        exact ⟨by first | rfl | (simp; done) | (simp [*]; done), by repeat (first | exact Drawn0.refl _ | apply Drawn0.step)⟩
end Go.Proofs.YteflfnjljjianaaGreatDoor.Qx
namespace Go.Proofs.YteflfnjljjianaaGreatDoor.Qx
open Go.RowKit Go.Proofs.YteflfnjljjianaaGreatDoorW.PrintWords Go.Proofs.YteflfnjljjianaaGreatDoorW.PrintLast Go.Proofs.YteflfnjljjianaaGreatDoorW.PrintMore
attribute [local go_sem] max2_int min2_int max_two min_two
set_option linter.unusedVariables false
set_option linter.unusedSimpArgs false
def cmp_isNaN_int.f (a0 : Int) : Option (Bool) := some (a0 != a0)
set_option maxHeartbeats 8000000 in
set_option maxRecDepth 100000 in
theorem cmp_isNaN_int.calls (a0 : Int) (r : Bool) (w : World) (h : cmp_isNaN_int.f a0 = some r) :
    Calls Tryz.prog 137 #[.int .i64 a0] w fun e w' => e = .returned (.bool r) ∧ Drawn0 w w' := by
  have H : (some (a0 != a0)) = some r := h
  clear h
  obtain rfl := Option.some.inj H
  go_enter Tryz.func137, Tryz.ntmps137
  go_wp2
  go_ret
  exact ⟨by first | rfl | (simp; done) | (simp [*]; done), by repeat (first | exact Drawn0.refl _ | apply Drawn0.step)⟩
end Go.Proofs.YteflfnjljjianaaGreatDoor.Qx
namespace Go.Proofs.YteflfnjljjianaaGreatDoor.Qx
open Go.RowKit Go.Proofs.YteflfnjljjianaaGreatDoorW.PrintWords Go.Proofs.YteflfnjljjianaaGreatDoorW.PrintLast Go.Proofs.YteflfnjljjianaaGreatDoorW.PrintMore
attribute [local go_sem] max2_int min2_int max_two min_two
set_option linter.unusedVariables false
set_option linter.unusedSimpArgs false
def cmp_Compare_int.f (a0 : Int) (a1 : Int) : Option (Int) := (cmp_isNaN_int.f a0).bind fun t101 => ((cmp_isNaN_int.f a1).bind fun t102 => (if t101 = true then (if t102 = true then (some 0) else (some (-1))) else (if t102 = true then (some 1) else (if a0 < a1 then (some (-1)) else (if a0 > a1 then (some 1) else (some 0))))))
set_option maxHeartbeats 8000000 in
set_option maxRecDepth 100000 in
theorem cmp_Compare_int.calls (a0 : Int) (a1 : Int) (r : Int) (w : World) (h : cmp_Compare_int.f a0 a1 = some r) :
    Calls Tryz.prog 106 #[.int .i64 a0, .int .i64 a1] w fun e w' => e = .returned (.int .i64 r) ∧ Drawn0 w w' := by
  have H : ((cmp_isNaN_int.f a0).bind fun t101 => ((cmp_isNaN_int.f a1).bind fun t102 => (if t101 = true then (if t102 = true then (some 0) else (some (-1))) else (if t102 = true then (some 1) else (if a0 < a1 then (some (-1)) else (if a0 > a1 then (some 1) else (some 0))))))) = some r := h
  clear h
  replace H := Option.bind_eq_some_iff.mp H
  obtain ⟨t101, A30, H⟩ := H
  replace H : ((cmp_isNaN_int.f a1).bind fun t102 => (if t101 = true then (if t102 = true then (some 0) else (some (-1))) else (if t102 = true then (some 1) else (if a0 < a1 then (some (-1)) else (if a0 > a1 then (some 1) else (some 0)))))) = some r := H
  have A3 := Aside0.mk A30
  clear A30
  replace H := Option.bind_eq_some_iff.mp H
  obtain ⟨t102, A40, H⟩ := H
  replace H : (if t101 = true then (if t102 = true then (some 0) else (some (-1))) else (if t102 = true then (some 1) else (if a0 < a1 then (some (-1)) else (if a0 > a1 then (some 1) else (some 0))))) = some r := H
  have A4 := Aside0.mk A40
  clear A40
  by_cases c5 : t101 = true
  · subst c5
    have H1 : (if t102 = true then (some 0) else (some (-1))) = some r := by rw [if_pos rfl] at H; exact H
    clear H
    have H := H1
    clear H1
    by_cases c6 : t102 = true
    · subst c6
      have H1 : (some 0) = some r := by rw [if_pos rfl] at H; exact H
      clear H
      have H := H1
      clear H1
      obtain rfl := Option.some.inj H
      go_enter Tryz.func106, Tryz.ntmps106
      go_wp2_with (first | ((with_reducible refine gate_callee (f := 137) rfl ?_); refine goesL_ (some 8) rfl rfl Tryz.func137 (by kernel_rfl) rfl #[.int .i64 a0] rfl (by (try simp only [List.map_toArray, List.map_cons, List.map_nil]); first | done | rfl | (simp only [List.length_drop, List.length_take]; rfl)) ?_; (with_reducible refine (cmp_isNaN_int.calls a0 true _ A3.out).mono ?_); rintro e w' ⟨rfl, ⟨nd, rfl⟩⟩; refine ⟨_, rfl, ?_⟩) | ((with_reducible refine gate_callee (f := 137) rfl ?_); refine goesL_ (some 10) rfl rfl Tryz.func137 (by kernel_rfl) rfl #[.int .i64 a1] rfl (by (try simp only [List.map_toArray, List.map_cons, List.map_nil]); first | done | rfl | (simp only [List.length_drop, List.length_take]; rfl)) ?_; (with_reducible refine (cmp_isNaN_int.calls a1 true _ A4.out).mono ?_); rintro e w' ⟨rfl, ⟨nd, rfl⟩⟩; refine ⟨_, rfl, ?_⟩))
      go_ret
      exact ⟨by first | rfl | (simp; done) | (simp [*]; done), by repeat (first | exact Drawn0.refl _ | apply Drawn0.step)⟩
    · replace c6 := Bool.eq_false_iff.mpr c6
      subst c6
      have H1 : (some (-1)) = some r := by rw [if_neg (show ¬ (false = true) by decide)] at H; exact H
      clear H
      have H := H1
      clear H1
      obtain rfl := Option.some.inj H
      go_enter Tryz.func106, Tryz.ntmps106
      go_wp2_with (first | ((with_reducible refine gate_callee (f := 137) rfl ?_); refine goesL_ (some 8) rfl rfl Tryz.func137 (by kernel_rfl) rfl #[.int .i64 a0] rfl (by (try simp only [List.map_toArray, List.map_cons, List.map_nil]); first | done | rfl | (simp only [List.length_drop, List.length_take]; rfl)) ?_; (with_reducible refine (cmp_isNaN_int.calls a0 true _ A3.out).mono ?_); rintro e w' ⟨rfl, ⟨nd, rfl⟩⟩; refine ⟨_, rfl, ?_⟩) | ((with_reducible refine gate_callee (f := 137) rfl ?_); refine goesL_ (some 10) rfl rfl Tryz.func137 (by kernel_rfl) rfl #[.int .i64 a1] rfl (by (try simp only [List.map_toArray, List.map_cons, List.map_nil]); first | done | rfl | (simp only [List.length_drop, List.length_take]; rfl)) ?_; (with_reducible refine (cmp_isNaN_int.calls a1 false _ A4.out).mono ?_); rintro e w' ⟨rfl, ⟨nd, rfl⟩⟩; refine ⟨_, rfl, ?_⟩))
      go_ret
      exact ⟨by first | rfl | (simp; done) | (simp [*]; done), by repeat (first | exact Drawn0.refl _ | apply Drawn0.step)⟩
  · replace c5 := Bool.eq_false_iff.mpr c5
    subst c5
    have H1 : (if t102 = true then (some 1) else (if a0 < a1 then (some (-1)) else (if a0 > a1 then (some 1) else (some 0)))) = some r := by rw [if_neg (show ¬ (false = true) by decide)] at H; exact H
    clear H
    have H := H1
    clear H1
    by_cases c7 : t102 = true
    · subst c7
      have H1 : (some 1) = some r := by rw [if_pos rfl] at H; exact H
      clear H
      have H := H1
      clear H1
      obtain rfl := Option.some.inj H
      go_enter Tryz.func106, Tryz.ntmps106
      go_wp2_with (first | ((with_reducible refine gate_callee (f := 137) rfl ?_); refine goesL_ (some 8) rfl rfl Tryz.func137 (by kernel_rfl) rfl #[.int .i64 a0] rfl (by (try simp only [List.map_toArray, List.map_cons, List.map_nil]); first | done | rfl | (simp only [List.length_drop, List.length_take]; rfl)) ?_; (with_reducible refine (cmp_isNaN_int.calls a0 false _ A3.out).mono ?_); rintro e w' ⟨rfl, ⟨nd, rfl⟩⟩; refine ⟨_, rfl, ?_⟩) | ((with_reducible refine gate_callee (f := 137) rfl ?_); refine goesL_ (some 10) rfl rfl Tryz.func137 (by kernel_rfl) rfl #[.int .i64 a1] rfl (by (try simp only [List.map_toArray, List.map_cons, List.map_nil]); first | done | rfl | (simp only [List.length_drop, List.length_take]; rfl)) ?_; (with_reducible refine (cmp_isNaN_int.calls a1 true _ A4.out).mono ?_); rintro e w' ⟨rfl, ⟨nd, rfl⟩⟩; refine ⟨_, rfl, ?_⟩))
      go_ret
      exact ⟨by first | rfl | (simp; done) | (simp [*]; done), by repeat (first | exact Drawn0.refl _ | apply Drawn0.step)⟩
    · replace c7 := Bool.eq_false_iff.mpr c7
      subst c7
      have H1 : (if a0 < a1 then (some (-1)) else (if a0 > a1 then (some 1) else (some 0))) = some r := by rw [if_neg (show ¬ (false = true) by decide)] at H; exact H
      clear H
      have H := H1
      clear H1
      by_cases c8 : a0 < a1
      · rw [if_pos c8] at H
        have c8b0 : decide (a0 < a1) = true := decide_eq_true c8
        clear c8
        obtain rfl := Option.some.inj H
        go_enter Tryz.func106, Tryz.ntmps106
        go_wp2_with (first | ((with_reducible refine gate_callee (f := 137) rfl ?_); refine goesL_ (some 8) rfl rfl Tryz.func137 (by kernel_rfl) rfl #[.int .i64 a0] rfl (by (try simp only [List.map_toArray, List.map_cons, List.map_nil]); first | done | rfl | (simp only [List.length_drop, List.length_take]; rfl)) ?_; (with_reducible refine (cmp_isNaN_int.calls a0 false _ A3.out).mono ?_); rintro e w' ⟨rfl, ⟨nd, rfl⟩⟩; refine ⟨_, rfl, ?_⟩) | ((with_reducible refine gate_callee (f := 137) rfl ?_); refine goesL_ (some 10) rfl rfl Tryz.func137 (by kernel_rfl) rfl #[.int .i64 a1] rfl (by (try simp only [List.map_toArray, List.map_cons, List.map_nil]); first | done | rfl | (simp only [List.length_drop, List.length_take]; rfl)) ?_; (with_reducible refine (cmp_isNaN_int.calls a1 false _ A4.out).mono ?_); rintro e w' ⟨rfl, ⟨nd, rfl⟩⟩; refine ⟨_, rfl, ?_⟩))
        go_ret
        exact ⟨by first | rfl | (simp; done) | (simp [*]; done), by repeat (first | exact Drawn0.refl _ | apply Drawn0.step)⟩
      · rw [if_neg c8] at H
        have c8b0 : decide (a0 < a1) = false := decide_eq_false c8
        clear c8
        by_cases c9 : a0 > a1
        · rw [if_pos c9] at H
          have c9b0 : decide (a1 < a0) = true := decide_eq_true c9
          clear c9
          obtain rfl := Option.some.inj H
          go_enter Tryz.func106, Tryz.ntmps106
          go_wp2_with (first | ((with_reducible refine gate_callee (f := 137) rfl ?_); refine goesL_ (some 8) rfl rfl Tryz.func137 (by kernel_rfl) rfl #[.int .i64 a0] rfl (by (try simp only [List.map_toArray, List.map_cons, List.map_nil]); first | done | rfl | (simp only [List.length_drop, List.length_take]; rfl)) ?_; (with_reducible refine (cmp_isNaN_int.calls a0 false _ A3.out).mono ?_); rintro e w' ⟨rfl, ⟨nd, rfl⟩⟩; refine ⟨_, rfl, ?_⟩) | ((with_reducible refine gate_callee (f := 137) rfl ?_); refine goesL_ (some 10) rfl rfl Tryz.func137 (by kernel_rfl) rfl #[.int .i64 a1] rfl (by (try simp only [List.map_toArray, List.map_cons, List.map_nil]); first | done | rfl | (simp only [List.length_drop, List.length_take]; rfl)) ?_; (with_reducible refine (cmp_isNaN_int.calls a1 false _ A4.out).mono ?_); rintro e w' ⟨rfl, ⟨nd, rfl⟩⟩; refine ⟨_, rfl, ?_⟩))
          go_ret
          exact ⟨by first | rfl | (simp; done) | (simp [*]; done), by repeat (first | exact Drawn0.refl _ | apply Drawn0.step)⟩
        · rw [if_neg c9] at H
          have c9b0 : decide (a1 < a0) = false := decide_eq_false c9
          clear c9
          obtain rfl := Option.some.inj H
          go_enter Tryz.func106, Tryz.ntmps106
          go_wp2_with (first | ((with_reducible refine gate_callee (f := 137) rfl ?_); refine goesL_ (some 8) rfl rfl Tryz.func137 (by kernel_rfl) rfl #[.int .i64 a0] rfl (by (try simp only [List.map_toArray, List.map_cons, List.map_nil]); first | done | rfl | (simp only [List.length_drop, List.length_take]; rfl)) ?_; (with_reducible refine (cmp_isNaN_int.calls a0 false _ A3.out).mono ?_); rintro e w' ⟨rfl, ⟨nd, rfl⟩⟩; refine ⟨_, rfl, ?_⟩) | ((with_reducible refine gate_callee (f := 137) rfl ?_); refine goesL_ (some 10) rfl rfl Tryz.func137 (by kernel_rfl) rfl #[.int .i64 a1] rfl (by (try simp only [List.map_toArray, List.map_cons, List.map_nil]); first | done | rfl | (simp only [List.length_drop, List.length_take]; rfl)) ?_; (with_reducible refine (cmp_isNaN_int.calls a1 false _ A4.out).mono ?_); rintro e w' ⟨rfl, ⟨nd, rfl⟩⟩; refine ⟨_, rfl, ?_⟩))
          go_ret
          exact ⟨by first | rfl | (simp; done) | (simp [*]; done), by repeat (first | exact Drawn0.refl _ | apply Drawn0.step)⟩
end Go.Proofs.YteflfnjljjianaaGreatDoor.Qx
namespace Go.Proofs.YteflfnjljjianaaGreatDoor.Qx
open Go.RowKit Go.Proofs.YteflfnjljjianaaGreatDoorW.PrintWords Go.Proofs.YteflfnjljjianaaGreatDoorW.PrintLast Go.Proofs.YteflfnjljjianaaGreatDoorW.PrintMore
attribute [local go_sem] max2_int min2_int max_two min_two
set_option linter.unusedVariables false
set_option linter.unusedSimpArgs false
def cmp_isNaN_string.f (a0 : ByteArray) : Option (Bool) := some (a0.toList != a0.toList)
set_option maxHeartbeats 8000000 in
set_option maxRecDepth 100000 in
theorem cmp_isNaN_string.calls (a0 : ByteArray) (r : Bool) (w : World) (h : cmp_isNaN_string.f a0 = some r) :
    Calls Tryz.prog 138 #[.string a0] w fun e w' => e = .returned (.bool r) ∧ Drawn0 w w' := by
  have H : (some (a0.toList != a0.toList)) = some r := h
  clear h
  obtain rfl := Option.some.inj H
  go_enter Tryz.func138, Tryz.ntmps138
  go_wp2
  go_ret
  exact ⟨by first | rfl | (simp; done) | (simp [*]; done), by repeat (first | exact Drawn0.refl _ | apply Drawn0.step)⟩
end Go.Proofs.YteflfnjljjianaaGreatDoor.Qx
namespace Go.Proofs.YteflfnjljjianaaGreatDoor.Qx
open Go.RowKit Go.Proofs.YteflfnjljjianaaGreatDoorW.PrintWords Go.Proofs.YteflfnjljjianaaGreatDoorW.PrintLast Go.Proofs.YteflfnjljjianaaGreatDoorW.PrintMore
attribute [local go_sem] max2_int min2_int max_two min_two
set_option linter.unusedVariables false
set_option linter.unusedSimpArgs false
def cmp_Compare_string.f (a0 : ByteArray) (a1 : ByteArray) : Option (Int) := some (if Op.bytesLess a0.toList a1.toList then -1 else if a0.toList == a1.toList then 0 else 1)
theorem cmp_Compare_string.calls (a0 : ByteArray) (a1 : ByteArray) (r : Int) (w : World) (h : cmp_Compare_string.f a0 a1 = some r) :
    Calls Tryz.prog 107 #[.string a0, .string a1] w fun e w' => e = .returned (.int .i64 r) ∧ Drawn0 w w' := by
  have h1 : (if Op.bytesLess a0.toList a1.toList then -1 else if a0.toList == a1.toList then 0 else 1) = r := Option.some.inj h
  have n1 : ∀ s : ByteArray, (s.toList != s.toList) = false := fun s => by simp
  have e0 : cmp_isNaN_string.f a0 = some false := by unfold cmp_isNaN_string.f; rw [n1]
  have e1 : cmp_isNaN_string.f a1 = some false := by unfold cmp_isNaN_string.f; rw [n1]
  have E0 := Lib.hid e0
  have E1 := Lib.hid e1
  have H := Lib.hid h1
  clear h1 h e0 e1 n1
  cases c : Op.bytesLess a0.toList a1.toList with
  | true =>
    go_enter Tryz.func107, Tryz.ntmps107
    go_wp2_with fail
    refine (cmp_isNaN_string.calls a0 false _ E0.out).mono ?_
    rintro e w' ⟨rfl, ⟨nd, rfl⟩⟩
    go_wp2_with fail
    refine (cmp_isNaN_string.calls a1 false _ E1.out).mono ?_
    rintro e w' ⟨rfl, ⟨nd, rfl⟩⟩
    go_wp2
    go_ret
    exact ⟨by rw [← H.out, c]; rfl, by repeat (first | exact Drawn0.refl _ | apply Drawn0.step)⟩
  | false =>
    cases d : a0.toList == a1.toList with
    | true =>
      go_enter Tryz.func107, Tryz.ntmps107
      go_wp2_with fail
      refine (cmp_isNaN_string.calls a0 false _ E0.out).mono ?_
      rintro e w' ⟨rfl, ⟨nd, rfl⟩⟩
      go_wp2_with fail
      refine (cmp_isNaN_string.calls a1 false _ E1.out).mono ?_
      rintro e w' ⟨rfl, ⟨nd, rfl⟩⟩
      go_wp2
      go_ret
      exact ⟨by rw [← H.out, c, d]; rfl, by repeat (first | exact Drawn0.refl _ | apply Drawn0.step)⟩
    | false =>
      go_enter Tryz.func107, Tryz.ntmps107
      go_wp2_with fail
      refine (cmp_isNaN_string.calls a0 false _ E0.out).mono ?_
      rintro e w' ⟨rfl, ⟨nd, rfl⟩⟩
      go_wp2_with fail
      refine (cmp_isNaN_string.calls a1 false _ E1.out).mono ?_
      rintro e w' ⟨rfl, ⟨nd, rfl⟩⟩
      go_wp2
      go_ret
      exact ⟨by rw [← H.out, c, d]; rfl, by repeat (first | exact Drawn0.refl _ | apply Drawn0.step)⟩
end Go.Proofs.YteflfnjljjianaaGreatDoor.Qx
namespace Go.Proofs.YteflfnjljjianaaGreatDoor.Qx
open Go.RowKit Go.Proofs.YteflfnjljjianaaGreatDoorW.PrintWords Go.Proofs.YteflfnjljjianaaGreatDoorW.PrintLast Go.Proofs.YteflfnjljjianaaGreatDoorW.PrintMore
attribute [local go_sem] max2_int min2_int max_two min_two
set_option linter.unusedVariables false
set_option linter.unusedSimpArgs false
def value_Cmp.f (k : Nat) (a0_0 : Int) (a0_1 : Int) (a0_2 : ByteArray) (a1_0 : Int) (a1_1 : Int) (a1_2 : ByteArray) : Option (Int) := (cmp_Compare_int.f a0_0 a1_0).bind fun t103 => ((cmp_Compare_int.f a0_1 a1_1).bind fun t104 => ((cmp_Compare_string.f a0_2 a1_2).bind fun t105 => ((value_first_int.f k (([t103, t104, t105] : List Int))).bind fun t109 => (some t109))))
def value_Cmp.T1 : Bool × List (List Nat × List Nat) := (true, [([], []), ([0], [0]), ([], []), ([2], [2]), ([1, 3], [1, 3]), ([], []), ([5], [5]), ([], []), ([7], [7]), ([6, 8, 4], [6, 8]), ([], []), ([10], [10]), ([], []), ([12], [12]), ([11, 13, 9], [11, 13]), ([4, 9, 14], [4, 9, 14]), ([15, 14], [15]), ([16, 16, 0, 1, 2, 3, 4, 5, 6, 7, 8, 9, 10, 11, 12, 13, 14, 15, 16], [16])])
def value_Cmp.B1 : List Nat := [0, 1, 0, 4, 15, 0, 32, 0, 128, 511, 0, 1024, 0, 4096, 16383, 32767, 65535, 131071]
theorem value_Cmp.tab1 : rtab .any (opsOf Tryz.f70 1) = value_Cmp.T1 := by kernel_rfl
theorem value_Cmp.bits1 : waitsOk value_Cmp.T1.2 value_Cmp.B1 = true := by kernel_rfl
set_option maxHeartbeats 8000000 in
set_option maxRecDepth 100000 in
theorem value_Cmp.calls (k : Nat) (a0_0 : Int) (a0_1 : Int) (a0_2 : ByteArray) (a1_0 : Int) (a1_1 : Int) (a1_2 : ByteArray) (r : Int) (w : World) (h : value_Cmp.f k a0_0 a0_1 a0_2 a1_0 a1_1 a1_2 = some r) :
    Calls Tryz.prog 70 #[.agg #[.int .i64 a0_0, .int .i64 a0_1, .string a0_2], .agg #[.int .i64 a1_0, .int .i64 a1_1, .string a1_2]] w fun e w' => e = .returned (.int .i64 r) ∧ Below w.heap.size w w' := by
  have hu35 := Tryz.underlying35
  have HB := Aside0.mk (Below.refl w.heap.size w)
  have H : ((cmp_Compare_int.f a0_0 a1_0).bind fun t103 => ((cmp_Compare_int.f a0_1 a1_1).bind fun t104 => ((cmp_Compare_string.f a0_2 a1_2).bind fun t105 => ((value_first_int.f k (([t103, t104, t105] : List Int))).bind fun t109 => (some t109))))) = some r := h
  clear h
  replace H := Option.bind_eq_some_iff.mp H
  obtain ⟨t103, A30, H⟩ := H
  replace H : ((cmp_Compare_int.f a0_1 a1_1).bind fun t104 => ((cmp_Compare_string.f a0_2 a1_2).bind fun t105 => ((value_first_int.f k (([t103, t104, t105] : List Int))).bind fun t109 => (some t109)))) = some r := H
  have A3 := Aside0.mk A30
  clear A30
  replace H := Option.bind_eq_some_iff.mp H
  obtain ⟨t104, A40, H⟩ := H
  replace H : ((cmp_Compare_string.f a0_2 a1_2).bind fun t105 => ((value_first_int.f k (([t103, t104, t105] : List Int))).bind fun t109 => (some t109))) = some r := H
  have A4 := Aside0.mk A40
  clear A40
  replace H := Option.bind_eq_some_iff.mp H
  obtain ⟨t105, A50, H⟩ := H
  replace H : ((value_first_int.f k (([t103, t104, t105] : List Int))).bind fun t109 => (some t109)) = some r := H
  have A5 := Aside0.mk A50
  clear A50
  obtain ⟨y106, hy106⟩ : ∃ y_ : List Int, y_ = (([t103, t104, t105] : List Int)) := ⟨_, rfl⟩
  replace H : ((value_first_int.f k y106).bind fun t109 => (some t109)) = some r := by first | (rw [hy106]; with_reducible exact H) | (have H2_ := (Option.bind_some _ _).symm.trans H; rw [hy106]; with_reducible exact H2_) | (have H2_ := (Option.bind_some _ _).symm.trans H; with_reducible exact H2_) | with_reducible exact H | (rw [hy106]; exact H) | exact H
  have Ny106 := Aside0.mk hy106
  clear hy106
  replace H := Option.bind_eq_some_iff.mp H
  obtain ⟨t109, A60, H⟩ := H
  replace H : (some t109) = some r := H
  have A6 := Aside0.mk A60
  clear A60
  obtain rfl := Option.some.inj H
  go_enter Tryz.func70, Tryz.ntmps70
  try go_wp2_with (first | ((with_reducible refine gate_dst (N := 2) rfl ?_); refine box_event ?hg (N := 2) ?hd (cs := #[.int .i64 a0_0, .int .i64 a0_1, .string a0_2]) (t := 35) ?hr ?_; (case hd => rfl); (case hg => rfl); (case hr => first | (go_simp; done) | (go_simp; rfl)); intro gb101 hg w7 hbox hb; have n0_ := Aside0.mk (below_step (by repeat (first | (with_reducible first | exact HB.out | apply below_alloc | apply pw_below_drewN | apply below_drew1) | exact HB.out)) hb); have n1_ := Aside0.mk (hbox); have n2_ := Aside0.mk ((by rw [hg]; exact (below_size (by repeat (first | (with_reducible first | exact HB.out | apply below_alloc | apply pw_below_drewN | apply below_drew1) | exact HB.out))) : w.heap.size ≤ gb101)); have n3_ := Aside0.mk ((by rw [hg]; exact (below_size (by repeat (first | (with_reducible first | exact HB.out | apply below_alloc | apply pw_below_drewN | apply below_drew1) | exact HB.out))) : w.heap.size ≤ gb101)); clear HB; have HB := n0_; have BK101 := n1_; have GW101 := n2_; have GE101 := n3_; clear n0_ n1_ n2_ n3_; clear hb hbox hg) | ((with_reducible refine gate_dst (N := 3) rfl ?_); refine box_event ?hg (N := 3) ?hd (cs := #[.int .i64 a1_0, .int .i64 a1_1, .string a1_2]) (t := 35) ?hr ?_; (case hd => rfl); (case hg => rfl); (case hr => first | (go_simp; done) | (go_simp; rfl)); intro gb102 hg w8 hbox hb; have n0_ := Aside0.mk (blk_below (g := gb101) (o := .cells #[.int .i64 a0_0, .int .i64 a0_1, .string a0_2] 35 (0, 0)) (by (with_reducible repeat (first | refine blk_drewN ?_ _ | refine blk_drew ?_ | refine blk_alloc ?_ _)); exact BK101.out) hb); have n1_ := Aside0.mk (below_step (by repeat (first | (with_reducible first | exact HB.out | apply below_alloc | apply pw_below_drewN | apply below_drew1 | refine below_set ?_ GE101.out) | exact HB.out)) hb); have n2_ := Aside0.mk (hbox); have n3_ := Aside0.mk ((by rw [hg]; exact (below_size (by repeat (first | (with_reducible first | exact HB.out | apply below_alloc | apply pw_below_drewN | apply below_drew1 | refine below_set ?_ GE101.out) | exact HB.out))) : w.heap.size ≤ gb102)); have n4_ := Aside0.mk ((by rw [hg]; exact (below_size (by repeat (first | (with_reducible first | exact HB.out | apply below_alloc | apply pw_below_drewN | apply below_drew1 | refine below_set ?_ GE101.out) | exact HB.out))) : w.heap.size ≤ gb102)); have n5_ := Aside0.mk ((by rw [hg]; exact Nat.ne_of_lt (blk_lt (g := gb101) (o := .cells #[.int .i64 a0_0, .int .i64 a0_1, .string a0_2] 35 (0, 0)) (by (with_reducible repeat (first | refine blk_drewN ?_ _ | refine blk_drew ?_ | refine blk_alloc ?_ _)); exact BK101.out)) : gb101 ≠ gb102)); have n6_ := Aside0.mk ((by rw [hg]; exact Nat.ne_of_gt (blk_lt (g := gb101) (o := .cells #[.int .i64 a0_0, .int .i64 a0_1, .string a0_2] 35 (0, 0)) (by (with_reducible repeat (first | refine blk_drewN ?_ _ | refine blk_drew ?_ | refine blk_alloc ?_ _)); exact BK101.out)) : gb102 ≠ gb101)); clear BK101; clear HB; have BK101 := n0_; have HB := n1_; have BK102 := n2_; have GW102 := n3_; have GE102 := n4_; have NB101_102 := n5_; have NB102_101 := n6_; clear n0_ n1_ n2_ n3_ n4_ n5_ n6_; clear hb hbox hg))
  have n0_ := Aside0.mk (blk_drew BK101.out)
  have n1_ := Aside0.mk (blk_drew BK102.out)
  have n2_ := Aside0.mk (below_drew1 HB.out)
  clear BK101
  clear BK102
  clear HB
  have BK101 := n0_
  have BK102 := n1_
  have HB := n2_
  clear n0_ n1_ n2_
  refine start_ (n := 18) (S := fun w' => w'.cell? ⟨gb101, 0, none⟩ = some (.int .i64 a0_0) ∧ w'.cell? ⟨gb101, 1, none⟩ = some (.int .i64 a0_1) ∧ w'.cell? ⟨gb101, 2, none⟩ = some (.string a0_2) ∧ w'.cell? ⟨gb102, 0, none⟩ = some (.int .i64 a1_0) ∧ w'.cell? ⟨gb102, 1, none⟩ = some (.int .i64 a1_1) ∧ w'.cell? ⟨gb102, 2, none⟩ = some (.string a1_2)) (ds := []) #[false, false, false, false, false, false, false, false, false, false, false, false, false, false, false, false, false, false] (by kernel_rfl) rfl rfl ⟨(blk_cell BK101.out 0).trans rfl, (blk_cell BK101.out 1).trans rfl, (blk_cell BK101.out 2).trans rfl, (blk_cell BK102.out 0).trans rfl, (blk_cell BK102.out 1).trans rfl, (blk_cell BK102.out 2).trans rfl⟩ (fun hHeld => ?_); refine with_tabW value_Cmp.tab1 value_Cmp.bits1 (fun HT_ HW_ => ?_)
  generalize w8.drew = w9 at BK101 BK102 HB hHeld ⊢
  refine pure_ (i := 0) (N := some 5) (v := ?_) (a' := ?_) #[true, false, false, false, false, false, false, false, false, false, false, false, false, false, false, false, false, false] rfl rfl (any_of HT_.out (by kernel_rfl)) (fun _ _ _ h => h) (Or.inl ⟨by rfl, ?_⟩) ?_ ?_
  rotate_left
  · intro w'
    go_simp
    with_reducible rfl
  rotate_left
  · simp only [Act.put, List.setIfInBounds_toArray, List.set_cons_zero, List.set_cons_succ, i64_w, i32_w]
    rfl
  refine pure_ (i := 2) (N := some 7) (v := ?_) (a' := ?_) #[true, false, true, false, false, false, false, false, false, false, false, false, false, false, false, false, false, false] rfl rfl (any_of HT_.out (by kernel_rfl)) (fun _ _ _ h => h) (Or.inl ⟨by rfl, ?_⟩) ?_ ?_
  rotate_left
  · intro w'
    go_simp
    with_reducible rfl
  rotate_left
  · simp only [Act.put, List.setIfInBounds_toArray, List.set_cons_zero, List.set_cons_succ, i64_w, i32_w]
    rfl
  refine pure_ (i := 5) (N := some 10) (v := ?_) (a' := ?_) #[true, false, true, false, false, true, false, false, false, false, false, false, false, false, false, false, false, false] rfl rfl (any_of HT_.out (by kernel_rfl)) (fun _ _ _ h => h) (Or.inl ⟨by rfl, ?_⟩) ?_ ?_
  rotate_left
  · intro w'
    go_simp
    with_reducible rfl
  rotate_left
  · simp only [Act.put, List.setIfInBounds_toArray, List.set_cons_zero, List.set_cons_succ, i64_w, i32_w]
    rfl
  refine pure_ (i := 7) (N := some 12) (v := ?_) (a' := ?_) #[true, false, true, false, false, true, false, true, false, false, false, false, false, false, false, false, false, false] rfl rfl (any_of HT_.out (by kernel_rfl)) (fun _ _ _ h => h) (Or.inl ⟨by rfl, ?_⟩) ?_ ?_
  rotate_left
  · intro w'
    go_simp
    with_reducible rfl
  rotate_left
  · simp only [Act.put, List.setIfInBounds_toArray, List.set_cons_zero, List.set_cons_succ, i64_w, i32_w]
    rfl
  refine pure_ (i := 10) (N := some 15) (v := ?_) (a' := ?_) #[true, false, true, false, false, true, false, true, false, false, true, false, false, false, false, false, false, false] rfl rfl (any_of HT_.out (by kernel_rfl)) (fun _ _ _ h => h) (Or.inl ⟨by rfl, ?_⟩) ?_ ?_
  rotate_left
  · intro w'
    go_simp
    with_reducible rfl
  rotate_left
  · simp only [Act.put, List.setIfInBounds_toArray, List.set_cons_zero, List.set_cons_succ, i64_w, i32_w]
    rfl
  refine pure_ (i := 12) (N := some 17) (v := ?_) (a' := ?_) #[true, false, true, false, false, true, false, true, false, false, true, false, true, false, false, false, false, false] rfl rfl (any_of HT_.out (by kernel_rfl)) (fun _ _ _ h => h) (Or.inl ⟨by rfl, ?_⟩) ?_ ?_
  rotate_left
  · intro w'
    go_simp
    with_reducible rfl
  rotate_left
  · simp only [Act.put, List.setIfInBounds_toArray, List.set_cons_zero, List.set_cons_succ, i64_w, i32_w]
    rfl
  refine take_ (i := 1) (N := some 6) (v := ?_) (a' := ?_) #[true, true, true, false, false, true, false, true, false, false, true, false, true, false, false, false, false, false] rfl rfl (take_ofW HT_.out HW_.out (by kernel_rfl)) (fun _ _ _ h => h) (Or.inl ⟨by rfl, ?_⟩) hHeld ?_ ?_
  rotate_left
  · rintro w' ⟨s0, s1, s2, s3, s4, s5⟩
    go_simp
    with_reducible rfl
  rotate_left
  · simp only [Act.put, List.setIfInBounds_toArray, List.set_cons_zero, List.set_cons_succ, i64_w, i32_w]
    rfl
  refine take_ (i := 3) (N := some 8) (v := ?_) (a' := ?_) #[true, true, true, true, false, true, false, true, false, false, true, false, true, false, false, false, false, false] rfl rfl (take_ofW HT_.out HW_.out (by kernel_rfl)) (fun _ _ _ h => h) (Or.inl ⟨by rfl, ?_⟩) hHeld ?_ ?_
  rotate_left
  · rintro w' ⟨s0, s1, s2, s3, s4, s5⟩
    go_simp
    with_reducible rfl
  rotate_left
  · simp only [Act.put, List.setIfInBounds_toArray, List.set_cons_zero, List.set_cons_succ, i64_w, i32_w]
    rfl
  refine take_ (i := 6) (N := some 11) (v := ?_) (a' := ?_) #[true, true, true, true, false, true, true, true, false, false, true, false, true, false, false, false, false, false] rfl rfl (take_ofW HT_.out HW_.out (by kernel_rfl)) (fun _ _ _ h => h) (Or.inl ⟨by rfl, ?_⟩) hHeld ?_ ?_
  rotate_left
  · rintro w' ⟨s0, s1, s2, s3, s4, s5⟩
    go_simp
    with_reducible rfl
  rotate_left
  · simp only [Act.put, List.setIfInBounds_toArray, List.set_cons_zero, List.set_cons_succ, i64_w, i32_w]
    rfl
  refine take_ (i := 8) (N := some 13) (v := ?_) (a' := ?_) #[true, true, true, true, false, true, true, true, true, false, true, false, true, false, false, false, false, false] rfl rfl (take_ofW HT_.out HW_.out (by kernel_rfl)) (fun _ _ _ h => h) (Or.inl ⟨by rfl, ?_⟩) hHeld ?_ ?_
  rotate_left
  · rintro w' ⟨s0, s1, s2, s3, s4, s5⟩
    go_simp
    with_reducible rfl
  rotate_left
  · simp only [Act.put, List.setIfInBounds_toArray, List.set_cons_zero, List.set_cons_succ, i64_w, i32_w]
    rfl
  refine take_ (i := 11) (N := some 16) (v := ?_) (a' := ?_) #[true, true, true, true, false, true, true, true, true, false, true, true, true, false, false, false, false, false] rfl rfl (take_ofW HT_.out HW_.out (by kernel_rfl)) (fun _ _ _ h => h) (Or.inl ⟨by rfl, ?_⟩) hHeld ?_ ?_
  rotate_left
  · rintro w' ⟨s0, s1, s2, s3, s4, s5⟩
    go_simp
    with_reducible rfl
  rotate_left
  · simp only [Act.put, List.setIfInBounds_toArray, List.set_cons_zero, List.set_cons_succ, i64_w, i32_w]
    rfl
  refine take_ (i := 13) (N := some 18) (v := ?_) (a' := ?_) #[true, true, true, true, false, true, true, true, true, false, true, true, true, true, false, false, false, false] rfl rfl (take_ofW HT_.out HW_.out (by kernel_rfl)) (fun _ _ _ h => h) (Or.inl ⟨by rfl, ?_⟩) hHeld ?_ ?_
  rotate_left
  · rintro w' ⟨s0, s1, s2, s3, s4, s5⟩
    go_simp
    with_reducible rfl
  rotate_left
  · simp only [Act.put, List.setIfInBounds_toArray, List.set_cons_zero, List.set_cons_succ, i64_w, i32_w]
    rfl
  refine one_ (i := 4) (N := some 9) #[true, true, true, true, true, true, true, true, true, false, true, true, true, true, false, false, false, false] rfl rfl (one_of HT_.out (by kernel_rfl)) (by decide) (fun K hK => ?_)
  refine goes_ Tryz.func106 (by kernel_rfl) rfl #[.int .i64 a0_0, .int .i64 a1_0] (by rfl) rfl rfl (by (try simp only [List.map_toArray, List.map_cons, List.map_nil]); first | done | rfl | (simp only [List.length_drop, List.length_take]; rfl)) ?_
  with_reducible refine (cmp_Compare_int.calls a0_0 a1_0 t103 _ A3.out).mono ?_
  rintro e w' ⟨rfl, ⟨nd, rfl⟩⟩
  refine ⟨_, rfl, ?_⟩
  refine hK.out _ _ ⟨(blk_cell BK101.out 0).trans rfl, (blk_cell BK101.out 1).trans rfl, (blk_cell BK101.out 2).trans rfl, (blk_cell BK102.out 0).trans rfl, (blk_cell BK102.out 1).trans rfl, (blk_cell BK102.out 2).trans rfl⟩ (fun hHeld => ?_)
  clear hK K
  refine norm_ (a' := ?_) ?_ ?_
  rotate_left
  · show Act.put _ (some 9) _ = _
    simp only [Act.put, List.setIfInBounds_toArray, List.set_cons_zero, List.set_cons_succ, i64_w, i32_w]
    rfl
  refine one_ (i := 9) (N := some 14) #[true, true, true, true, true, true, true, true, true, true, true, true, true, true, false, false, false, false] rfl rfl (one_of HT_.out (by kernel_rfl)) (by decide) (fun K hK => ?_)
  refine goes_ Tryz.func106 (by kernel_rfl) rfl #[.int .i64 a0_1, .int .i64 a1_1] (by rfl) rfl rfl (by (try simp only [List.map_toArray, List.map_cons, List.map_nil]); first | done | rfl | (simp only [List.length_drop, List.length_take]; rfl)) ?_
  with_reducible refine (cmp_Compare_int.calls a0_1 a1_1 t104 _ A4.out).mono ?_
  rintro e w' ⟨rfl, ⟨nd, rfl⟩⟩
  refine ⟨_, rfl, ?_⟩
  refine hK.out _ _ ⟨(blk_cell BK101.out 0).trans rfl, (blk_cell BK101.out 1).trans rfl, (blk_cell BK101.out 2).trans rfl, (blk_cell BK102.out 0).trans rfl, (blk_cell BK102.out 1).trans rfl, (blk_cell BK102.out 2).trans rfl⟩ (fun hHeld => ?_)
  clear hK K
  refine norm_ (a' := ?_) ?_ ?_
  rotate_left
  · show Act.put _ (some 14) _ = _
    simp only [Act.put, List.setIfInBounds_toArray, List.set_cons_zero, List.set_cons_succ, i64_w, i32_w]
    rfl
  refine one_ (i := 14) (N := some 19) #[true, true, true, true, true, true, true, true, true, true, true, true, true, true, true, false, false, false] rfl rfl (one_of HT_.out (by kernel_rfl)) (by decide) (fun K hK => ?_)
  refine goes_ Tryz.func107 (by kernel_rfl) rfl #[.string a0_2, .string a1_2] (by rfl) rfl rfl (by (try simp only [List.map_toArray, List.map_cons, List.map_nil]); first | done | rfl | (simp only [List.length_drop, List.length_take]; rfl)) ?_
  with_reducible refine (cmp_Compare_string.calls a0_2 a1_2 t105 _ A5.out).mono ?_
  rintro e w' ⟨rfl, ⟨nd, rfl⟩⟩
  refine ⟨_, rfl, ?_⟩
  refine hK.out _ _ ⟨(blk_cell BK101.out 0).trans rfl, (blk_cell BK101.out 1).trans rfl, (blk_cell BK101.out 2).trans rfl, (blk_cell BK102.out 0).trans rfl, (blk_cell BK102.out 1).trans rfl, (blk_cell BK102.out 2).trans rfl⟩ (fun hHeld => ?_)
  clear hK K
  refine norm_ (a' := ?_) ?_ ?_
  rotate_left
  · show Act.put _ (some 19) _ = _
    simp only [Act.put, List.setIfInBounds_toArray, List.set_cons_zero, List.set_cons_succ, i64_w, i32_w]
    rfl
  refine one_ (i := 15) (N := some 20) #[true, true, true, true, true, true, true, true, true, true, true, true, true, true, true, true, false, false] rfl rfl (one_of HT_.out (by kernel_rfl)) (by decide) (fun K hK => ?_)
  refine Kd.R_lit_step (Kd.int .i64) _ 3 ?hg (N := 20) ?hd (xs := ([t103, t104, t105] : List Int)) (inner := [.int .i64 t103, .int .i64 t104, .int .i64 t105]) (ok := fun _ => True) (okp := fun _ => True) ?hr ?hp (fun _ hk => hk) trivial (Below.refl _ _) (Nat.le_refl _) (by simp) ?_; (case hd => rfl); (case hg => rfl); (case hr => first | (go_simp; done) | (go_simp; rfl)); (case hp => exact (Reps.one (show Kd.M (Kd.int .i64) _ _ _ t103 [.int .i64 t103] from rfl) (Reps.one (show Kd.M (Kd.int .i64) _ _ _ t104 [.int .i64 t104] from rfl) (Reps.one (show Kd.M (Kd.int .i64) _ _ _ t105 [.int .i64 t105] from rfl) (Reps.none _ _)))))
  intro v107 w10 ho11 hb hg_ hnew_
  clear hg_ hnew_
  (first | rw [← Ny106.out] at ho11 | (simp only [Int.reduceToNat] at ho11; rw [← Ny106.out] at ho11))
  have n0_ := Aside0.mk (Kd.R_lower ho11 (below_size (by repeat (first | (with_reducible first | exact HB.out | apply below_alloc | apply pw_below_drewN | apply below_drew1 | refine below_set ?_ GE101.out | refine below_set ?_ GE102.out) | exact HB.out))))
  have n1_ := Aside0.mk (blk_below (g := gb101) (o := .cells #[.int .i64 a0_0, .int .i64 a0_1, .string a0_2] 35 (0, 0)) (by (with_reducible repeat (first | refine blk_drewN ?_ _ | refine blk_drew ?_ | refine blk_alloc ?_ _)); exact BK101.out) hb)
  have n2_ := Aside0.mk (blk_below (g := gb102) (o := .cells #[.int .i64 a1_0, .int .i64 a1_1, .string a1_2] 35 (0, 0)) (by (with_reducible repeat (first | refine blk_drewN ?_ _ | refine blk_drew ?_ | refine blk_alloc ?_ _)); exact BK102.out) hb)
  have n3_ := Aside0.mk (below_step (by repeat (first | (with_reducible first | exact HB.out | apply below_alloc | apply pw_below_drewN | apply below_drew1 | refine below_set ?_ GE101.out | refine below_set ?_ GE102.out) | exact HB.out)) hb)
  clear BK101
  clear BK102
  clear HB
  have HO108 := n0_
  have BK101 := n1_
  have BK102 := n2_
  have HB := n3_
  clear n0_ n1_ n2_ n3_
  clear hb ho11
  obtain ⟨Ao12, co12, eo12⟩ := Kd.R_slice HO108.out
  (first | subst eo12 | (injection eo12 with f1_ f2_ f3_; have f4_ := f1_.symm; have f5_ := f3_.symm; clear f1_ f2_ f3_; subst f4_; subst f5_))
  refine hK.out _ _ ⟨(blk_cell BK101.out 0).trans rfl, (blk_cell BK101.out 1).trans rfl, (blk_cell BK101.out 2).trans rfl, (blk_cell BK102.out 0).trans rfl, (blk_cell BK102.out 1).trans rfl, (blk_cell BK102.out 2).trans rfl⟩ (fun hHeld => ?_)
  clear hK K
  refine norm_ (a' := ?_) ?_ ?_
  rotate_left
  · show Act.put _ (some 20) _ = _
    simp only [Act.put, List.setIfInBounds_toArray, List.set_cons_zero, List.set_cons_succ, i64_w, i32_w]
    rfl
  refine one_ (i := 16) (N := some 21) #[true, true, true, true, true, true, true, true, true, true, true, true, true, true, true, true, true, false] rfl rfl (one_of HT_.out (by kernel_rfl)) (by decide) (fun K hK => ?_)
  refine goes_ Tryz.func105 (by kernel_rfl) rfl #[.slice Ao12 y106.length co12] (by rfl) rfl rfl (by (try simp only [List.map_toArray, List.map_cons, List.map_nil]); first | done | rfl | (simp only [List.length_drop, List.length_take]; rfl)) ?_
  with_reducible refine (value_first_int.calls k _ _ y106 t109 _ ?side1 ?side2 A6.out).mono ?_
  (case side1 => repeat (first | exact (Kd.R_reads' HO108.out).2.2 | (with_reducible refine Kd.C_alloc ?_ _) | (with_reducible refine Kd.C_drewN ?_ _) | (with_reducible refine Kd.C_drew ?_)))
  (case side2 => exact (Kd.R_reads' HO108.out).2.1)
  rintro e w' ⟨rfl, ⟨nd, rfl⟩⟩
  refine ⟨_, rfl, ?_⟩
  refine hK.out _ _ ⟨(blk_cell BK101.out 0).trans rfl, (blk_cell BK101.out 1).trans rfl, (blk_cell BK101.out 2).trans rfl, (blk_cell BK102.out 0).trans rfl, (blk_cell BK102.out 1).trans rfl, (blk_cell BK102.out 2).trans rfl⟩ (fun hHeld => ?_)
  clear hK K
  refine norm_ (a' := ?_) ?_ ?_
  rotate_left
  · show Act.put _ (some 21) _ = _
    simp only [Act.put, List.setIfInBounds_toArray, List.set_cons_zero, List.set_cons_succ, i64_w, i32_w]
    rfl
  refine pure_ (i := 17) (N := some 4) (v := ?_) (a' := ?_) #[true, true, true, true, true, true, true, true, true, true, true, true, true, true, true, true, true, true] rfl rfl (any_of HT_.out (by kernel_rfl)) (fun _ _ _ h => h) (Or.inl ⟨by rfl, ?_⟩) ?_ ?_
  rotate_left
  · intro w'
    go_simp
    with_reducible rfl
  rotate_left
  · simp only [Act.put, List.setIfInBounds_toArray, List.set_cons_zero, List.set_cons_succ, i64_w, i32_w]
    rfl
  refine done_ (done_of HT_.out (by kernel_rfl)) ?_
  try go_wp2
  go_ret
  exact ⟨by first | rfl | (simp [errW_none, errW_some] <;> rfl) | (simp [*, errW_none, errW_some] <;> rfl), by repeat (first | (with_reducible first | exact HB.out | apply below_alloc | apply pw_below_drewN | apply below_drew1 | refine below_set ?_ GE101.out | refine below_set ?_ GE102.out) | exact HB.out)⟩
end Go.Proofs.YteflfnjljjianaaGreatDoor.Qx
namespace Go.Proofs.YteflfnjljjianaaGreatDoor.Qx
open Go.RowKit Go.Proofs.YteflfnjljjianaaGreatDoorW.PrintWords Go.Proofs.YteflfnjljjianaaGreatDoorW.PrintLast Go.Proofs.YteflfnjljjianaaGreatDoorW.PrintMore
attribute [local go_sem] max2_int min2_int max_two min_two
set_option linter.unusedVariables false
set_option linter.unusedSimpArgs false
attribute [local go_sem high] eqA35
def bounds_span_single.f (a0_0 : Bool) (a0_1 : Bool) (a0_2 : Int) (a0_3 : Int) (a0_4 : ByteArray) (a0_5 : Int) (a0_6 : Int) (a0_7 : ByteArray) : Option (Bool) := some (a0_2 == a0_5 && (a0_3 == a0_6 && (a0_4.toList == a0_7.toList)))
set_option maxHeartbeats 8000000 in
set_option maxRecDepth 100000 in
theorem bounds_span_single.calls (a0_0 : Bool) (a0_1 : Bool) (a0_2 : Int) (a0_3 : Int) (a0_4 : ByteArray) (a0_5 : Int) (a0_6 : Int) (a0_7 : ByteArray) (r : Bool) (w : World) (h : bounds_span_single.f a0_0 a0_1 a0_2 a0_3 a0_4 a0_5 a0_6 a0_7 = some r) :
    Calls Tryz.prog 200 #[.agg #[.bool a0_0, .bool a0_1, .int .i64 a0_2, .int .i64 a0_3, .string a0_4, .int .i64 a0_5, .int .i64 a0_6, .string a0_7]] w fun e w' => e = .returned (.bool r) ∧ Below w.heap.size w w' := by
  have hu161 := Tryz.underlying161
  have hu35 := Tryz.underlying35
  have HB := Aside0.mk (Below.refl w.heap.size w)
  have H : (some (a0_2 == a0_5 && (a0_3 == a0_6 && (a0_4.toList == a0_7.toList)))) = some r := h
  clear h
  obtain rfl := Option.some.inj H
  go_enter Tryz.func200, Tryz.ntmps200
  go_wp2_with (first | ((with_reducible refine gate_dst (N := 1) rfl ?_); refine box_event ?hg (N := 1) ?hd (cs := #[.bool a0_0, .bool a0_1, .int .i64 a0_2, .int .i64 a0_3, .string a0_4, .int .i64 a0_5, .int .i64 a0_6, .string a0_7]) (t := 161) ?hr ?_; (case hd => rfl); (case hg => rfl); (case hr => first | (go_simp; done) | (go_simp; rfl)); intro gb101 hg w2 hbox hb; have n0_ := Aside0.mk (below_step (by repeat (first | (with_reducible first | exact HB.out | apply below_alloc | apply pw_below_drewN | apply below_drew1) | exact HB.out)) hb); have n1_ := Aside0.mk (hbox); have n2_ := Aside0.mk ((by rw [hg]; exact (below_size (by repeat (first | (with_reducible first | exact HB.out | apply below_alloc | apply pw_below_drewN | apply below_drew1) | exact HB.out))) : w.heap.size ≤ gb101)); have n3_ := Aside0.mk ((by rw [hg]; exact (below_size (by repeat (first | (with_reducible first | exact HB.out | apply below_alloc | apply pw_below_drewN | apply below_drew1) | exact HB.out))) : w.heap.size ≤ gb101)); clear HB; have HB := n0_; have BK101 := n1_; have GW101 := n2_; have GE101 := n3_; clear n0_ n1_ n2_ n3_; clear hb hbox hg; have hcz3_0 : w2.cell? ⟨gb101, 0, none⟩ = some (.bool a0_0) := (blk_cell BK101.out 0).trans rfl; have hcz3_1 : w2.cell? ⟨gb101, 1, none⟩ = some (.bool a0_1) := (blk_cell BK101.out 1).trans rfl; have hcz3_2 : w2.cell? ⟨gb101, 2, none⟩ = some (.int .i64 a0_2) := (blk_cell BK101.out 2).trans rfl; have hcz3_3 : w2.cell? ⟨gb101, 3, none⟩ = some (.int .i64 a0_3) := (blk_cell BK101.out 3).trans rfl; have hcz3_4 : w2.cell? ⟨gb101, 4, none⟩ = some (.string a0_4) := (blk_cell BK101.out 4).trans rfl; have hcz3_5 : w2.cell? ⟨gb101, 5, none⟩ = some (.int .i64 a0_5) := (blk_cell BK101.out 5).trans rfl; have hcz3_6 : w2.cell? ⟨gb101, 6, none⟩ = some (.int .i64 a0_6) := (blk_cell BK101.out 6).trans rfl; have hcz3_7 : w2.cell? ⟨gb101, 7, none⟩ = some (.string a0_7) := (blk_cell BK101.out 7).trans rfl; have hfz3_0 := blk_frozen BK101.out 0; have hfz3_1 := blk_frozen BK101.out 1; have hfz3_2 := blk_frozen BK101.out 2; have hfz3_3 := blk_frozen BK101.out 3; have hfz3_4 := blk_frozen BK101.out 4; have hfz3_5 := blk_frozen BK101.out 5; have hfz3_6 := blk_frozen BK101.out 6; have hfz3_7 := blk_frozen BK101.out 7))
  go_ret
  exact ⟨by first | rfl | (simp [errW_none, errW_some] <;> rfl) | (simp [*, errW_none, errW_some] <;> rfl), by repeat (first | (with_reducible first | exact HB.out | apply below_alloc | apply pw_below_drewN | apply below_drew1 | refine below_set ?_ GE101.out) | exact HB.out)⟩
end Go.Proofs.YteflfnjljjianaaGreatDoor.Qx
namespace Go.Proofs.YteflfnjljjianaaGreatDoor.Qx
open Go.RowKit Go.Proofs.YteflfnjljjianaaGreatDoorW.PrintWords Go.Proofs.YteflfnjljjianaaGreatDoorW.PrintLast Go.Proofs.YteflfnjljjianaaGreatDoorW.PrintMore
attribute [local go_sem] max2_int min2_int max_two min_two
set_option linter.unusedVariables false
set_option linter.unusedSimpArgs false
attribute [local go_sem high] eqA35
set_option maxRecDepth 100000 in
set_option maxHeartbeats 8000000 in
theorem bounds_span_equal.less (K : Nat) (n0 h0 : Bool) (a0 a1 : Int) (a2 : ByteArray) (b0 b1 : Int) (b2 : ByteArray) (n1 h1 : Bool) (c0 c1 : Int) (c2 : ByteArray) (d0 d1 : Int) (d2 : ByteArray) (p q : Int) (s1 s2 eq : Bool)
    (e1 : decide (p < 0) = true) (H1 : value_Cmp.f K b0 b1 b2 c0 c1 c2 = some p)
    (e3 : (a0 == b0 && (a1 == b1 && (a2.toList == b2.toList))) = s1) (e4 : (c0 == d0 && (c1 == d1 && (c2.toList == d2.toList))) = s2) (e5 : (a0 == c0 && (a1 == c1 && (a2.toList == c2.toList))) = eq)
    (r0 r1 : Bool) (r2 r3 : Int) (r4 : ByteArray) (r5 r6 : Int) (r7 : ByteArray) (HT : bounds_truth.f (!(s1 && s2 && eq)) (false) false = some (r0, r1, r2, r3, r4, r5, r6, r7)) (w : World) :
    Calls Tryz.prog 185 #[.agg #[.bool n0, .bool h0, .int .i64 a0, .int .i64 a1, .string a2, .int .i64 b0, .int .i64 b1, .string b2], .agg #[.bool n1, .bool h1, .int .i64 c0, .int .i64 c1, .string c2, .int .i64 d0, .int .i64 d1, .string d2]] w fun e w' => e = .returned (.agg #[.bool r0, .bool r1, .int .i64 r2, .int .i64 r3, .string r4, .int .i64 r5, .int .i64 r6, .string r7]) ∧ Below w.heap.size w w' := by
  have hu161 := Tryz.underlying161
  have hu35 := Tryz.underlying35
  go_enter Tryz.func185, Tryz.ntmps185
  go_wp2_with fail
  have K0 := blk_alloc (blk_alloc (heap_alloc_new w (.cells #[.bool n0, .bool h0, .int .i64 a0, .int .i64 a1, .string a2, .int .i64 b0, .int .i64 b1, .string b2] 161)) (.cells #[.bool n1, .bool h1, .int .i64 c0, .int .i64 c1, .string c2, .int .i64 d0, .int .i64 d1, .string d2] 161)) (.cells #[.bool false, .bool false, .int .i64 0, .int .i64 0, .string ⟨#[]⟩, .int .i64 0, .int .i64 0, .string ⟨#[]⟩] 161)
  have K1 := blk_alloc (heap_alloc_new (w.alloc (.cells #[.bool n0, .bool h0, .int .i64 a0, .int .i64 a1, .string a2, .int .i64 b0, .int .i64 b1, .string b2] 161)) (.cells #[.bool n1, .bool h1, .int .i64 c0, .int .i64 c1, .string c2, .int .i64 d0, .int .i64 d1, .string d2] 161)) (.cells #[.bool false, .bool false, .int .i64 0, .int .i64 0, .string ⟨#[]⟩, .int .i64 0, .int .i64 0, .string ⟨#[]⟩] 161)
  have K2 := heap_alloc_new ((w.alloc (.cells #[.bool n0, .bool h0, .int .i64 a0, .int .i64 a1, .string a2, .int .i64 b0, .int .i64 b1, .string b2] 161)).alloc (.cells #[.bool n1, .bool h1, .int .i64 c0, .int .i64 c1, .string c2, .int .i64 d0, .int .i64 d1, .string d2] 161)) (.cells #[.bool false, .bool false, .int .i64 0, .int .i64 0, .string ⟨#[]⟩, .int .i64 0, .int .i64 0, .string ⟨#[]⟩] 161)
  have hB := Lib.hid ((((Below.refl _ w).alloc (Nat.le_refl _) (.cells #[.bool n0, .bool h0, .int .i64 a0, .int .i64 a1, .string a2, .int .i64 b0, .int .i64 b1, .string b2] 161)).alloc (by simp only [World.size_alloc]; omega) (.cells #[.bool n1, .bool h1, .int .i64 c0, .int .i64 c1, .string c2, .int .i64 d0, .int .i64 d1, .string d2] 161)).alloc (by simp only [World.size_alloc]; omega) (.cells #[.bool false, .bool false, .int .i64 0, .int .i64 0, .string ⟨#[]⟩, .int .i64 0, .int .i64 0, .string ⟨#[]⟩] 161))
  simp only [World.size_alloc] at K1 K2
  generalize ((w.alloc (.cells #[.bool n0, .bool h0, .int .i64 a0, .int .i64 a1, .string a2, .int .i64 b0, .int .i64 b1, .string b2] 161)).alloc (.cells #[.bool n1, .bool h1, .int .i64 c0, .int .i64 c1, .string c2, .int .i64 d0, .int .i64 d1, .string d2] 161)).alloc (.cells #[.bool false, .bool false, .int .i64 0, .int .i64 0, .string ⟨#[]⟩, .int .i64 0, .int .i64 0, .string ⟨#[]⟩] 161) = W at *
  have k0_0 : W.cell? ⟨w.heap.size, 0, none⟩ = some (.bool n0) := (blk_cell K0 0).trans rfl
  have k0_1 : W.cell? ⟨w.heap.size, 1, none⟩ = some (.bool h0) := (blk_cell K0 1).trans rfl
  have k0_2 : W.cell? ⟨w.heap.size, 2, none⟩ = some (.int .i64 a0) := (blk_cell K0 2).trans rfl
  have k0_3 : W.cell? ⟨w.heap.size, 3, none⟩ = some (.int .i64 a1) := (blk_cell K0 3).trans rfl
  have k0_4 : W.cell? ⟨w.heap.size, 4, none⟩ = some (.string a2) := (blk_cell K0 4).trans rfl
  have k0_5 : W.cell? ⟨w.heap.size, 5, none⟩ = some (.int .i64 b0) := (blk_cell K0 5).trans rfl
  have k0_6 : W.cell? ⟨w.heap.size, 6, none⟩ = some (.int .i64 b1) := (blk_cell K0 6).trans rfl
  have k0_7 : W.cell? ⟨w.heap.size, 7, none⟩ = some (.string b2) := (blk_cell K0 7).trans rfl
  have k1_0 : W.cell? ⟨w.heap.size + 1, 0, none⟩ = some (.bool n1) := (blk_cell K1 0).trans rfl
  have k1_1 : W.cell? ⟨w.heap.size + 1, 1, none⟩ = some (.bool h1) := (blk_cell K1 1).trans rfl
  have k1_2 : W.cell? ⟨w.heap.size + 1, 2, none⟩ = some (.int .i64 c0) := (blk_cell K1 2).trans rfl
  have k1_3 : W.cell? ⟨w.heap.size + 1, 3, none⟩ = some (.int .i64 c1) := (blk_cell K1 3).trans rfl
  have k1_4 : W.cell? ⟨w.heap.size + 1, 4, none⟩ = some (.string c2) := (blk_cell K1 4).trans rfl
  have k1_5 : W.cell? ⟨w.heap.size + 1, 5, none⟩ = some (.int .i64 d0) := (blk_cell K1 5).trans rfl
  have k1_6 : W.cell? ⟨w.heap.size + 1, 6, none⟩ = some (.int .i64 d1) := (blk_cell K1 6).trans rfl
  have k1_7 : W.cell? ⟨w.heap.size + 1, 7, none⟩ = some (.string d2) := (blk_cell K1 7).trans rfl
  replace K2 := Lib.hid K2
  clear K0 K1
  go_wp2_with fail
  refine (value_Cmp.calls K b0 b1 b2 c0 c1 c2 p _ H1).mono ?_
  rintro e w1 ⟨rfl, hbn⟩
  replace k0_0 := pw_cell_below hbn k0_0
  replace k0_1 := pw_cell_below hbn k0_1
  replace k0_2 := pw_cell_below hbn k0_2
  replace k0_3 := pw_cell_below hbn k0_3
  replace k0_4 := pw_cell_below hbn k0_4
  replace k0_5 := pw_cell_below hbn k0_5
  replace k0_6 := pw_cell_below hbn k0_6
  replace k0_7 := pw_cell_below hbn k0_7
  replace k1_0 := pw_cell_below hbn k1_0
  replace k1_1 := pw_cell_below hbn k1_1
  replace k1_2 := pw_cell_below hbn k1_2
  replace k1_3 := pw_cell_below hbn k1_3
  replace k1_4 := pw_cell_below hbn k1_4
  replace k1_5 := pw_cell_below hbn k1_5
  replace k1_6 := pw_cell_below hbn k1_6
  replace k1_7 := pw_cell_below hbn k1_7
  replace K2 := Lib.hid (blk_below K2.out hbn)
  replace hB := Lib.hid (below_then hB.out hB.out.size hbn)
  clear hbn
  go_wp2_with fail
  refine (bounds_span_single.calls n0 h0 a0 a1 a2 b0 b1 b2 s1 _ (congrArg some e3)).mono ?_
  rintro e w2 ⟨rfl, hbn⟩
  replace k0_0 := pw_cell_below hbn k0_0
  replace k0_1 := pw_cell_below hbn k0_1
  replace k0_2 := pw_cell_below hbn k0_2
  replace k0_3 := pw_cell_below hbn k0_3
  replace k0_4 := pw_cell_below hbn k0_4
  replace k0_5 := pw_cell_below hbn k0_5
  replace k0_6 := pw_cell_below hbn k0_6
  replace k0_7 := pw_cell_below hbn k0_7
  replace k1_0 := pw_cell_below hbn k1_0
  replace k1_1 := pw_cell_below hbn k1_1
  replace k1_2 := pw_cell_below hbn k1_2
  replace k1_3 := pw_cell_below hbn k1_3
  replace k1_4 := pw_cell_below hbn k1_4
  replace k1_5 := pw_cell_below hbn k1_5
  replace k1_6 := pw_cell_below hbn k1_6
  replace k1_7 := pw_cell_below hbn k1_7
  replace K2 := Lib.hid (blk_below K2.out hbn)
  replace hB := Lib.hid (below_then hB.out hB.out.size hbn)
  clear hbn
  cases s1 with
  | false =>
    go_wp2_with fail
    refine (bounds_truth.calls _ _ _ r0 r1 r2 r3 r4 r5 r6 r7 _ HT).mono ?_
    rintro e w3 ⟨rfl, hbn⟩
    replace k0_0 := pw_cell_below hbn k0_0
    replace k0_1 := pw_cell_below hbn k0_1
    replace k0_2 := pw_cell_below hbn k0_2
    replace k0_3 := pw_cell_below hbn k0_3
    replace k0_4 := pw_cell_below hbn k0_4
    replace k0_5 := pw_cell_below hbn k0_5
    replace k0_6 := pw_cell_below hbn k0_6
    replace k0_7 := pw_cell_below hbn k0_7
    replace k1_0 := pw_cell_below hbn k1_0
    replace k1_1 := pw_cell_below hbn k1_1
    replace k1_2 := pw_cell_below hbn k1_2
    replace k1_3 := pw_cell_below hbn k1_3
    replace k1_4 := pw_cell_below hbn k1_4
    replace k1_5 := pw_cell_below hbn k1_5
    replace k1_6 := pw_cell_below hbn k1_6
    replace k1_7 := pw_cell_below hbn k1_7
    replace K2 := Lib.hid (blk_below K2.out hbn)
    replace hB := Lib.hid (below_then hB.out hB.out.size hbn)
    clear hbn
    have Z := K2.out
    have z0 := blk_frozen Z 0
    have z1 := blk_frozen Z 1
    have z2 := blk_frozen Z 2
    have z3 := blk_frozen Z 3
    have z4 := blk_frozen Z 4
    have z5 := blk_frozen Z 5
    have z6 := blk_frozen Z 6
    have z7 := blk_frozen Z 7
    have y0 := blk_cell Z 0
    have y1 := blk_cell Z 1
    have y2 := blk_cell Z 2
    have y3 := blk_cell Z 3
    have y4 := blk_cell Z 4
    have y5 := blk_cell Z 5
    have y6 := blk_cell Z 6
    have y7 := blk_cell Z 7
    go_wp2
    refine bodyPost_ret (v := .agg #[.bool r0, .bool r1, .int .i64 r2, .int .i64 r3, .string r4, .int .i64 r5, .int .i64 r6, .string r7]) (by simp [results, Tryz.results185, go_sem, *]) rfl ⟨rfl, ?_⟩
    repeat (refine below_set ?_ (by first | exact Nat.le_refl _ | exact Nat.le_add_right _ _ | (show w.heap.size ≤ w.heap.size + 1 + 1; omega)))
    exact hB.out
  | true =>
    go_wp2_with fail
    refine (bounds_span_single.calls n1 h1 c0 c1 c2 d0 d1 d2 s2 _ (congrArg some e4)).mono ?_
    rintro e w3 ⟨rfl, hbn⟩
    replace k0_0 := pw_cell_below hbn k0_0
    replace k0_1 := pw_cell_below hbn k0_1
    replace k0_2 := pw_cell_below hbn k0_2
    replace k0_3 := pw_cell_below hbn k0_3
    replace k0_4 := pw_cell_below hbn k0_4
    replace k0_5 := pw_cell_below hbn k0_5
    replace k0_6 := pw_cell_below hbn k0_6
    replace k0_7 := pw_cell_below hbn k0_7
    replace k1_0 := pw_cell_below hbn k1_0
    replace k1_1 := pw_cell_below hbn k1_1
    replace k1_2 := pw_cell_below hbn k1_2
    replace k1_3 := pw_cell_below hbn k1_3
    replace k1_4 := pw_cell_below hbn k1_4
    replace k1_5 := pw_cell_below hbn k1_5
    replace k1_6 := pw_cell_below hbn k1_6
    replace k1_7 := pw_cell_below hbn k1_7
    replace K2 := Lib.hid (blk_below K2.out hbn)
    replace hB := Lib.hid (below_then hB.out hB.out.size hbn)
    clear hbn
    cases s2 with
    | false =>
      go_wp2_with fail
      refine (bounds_truth.calls _ _ _ r0 r1 r2 r3 r4 r5 r6 r7 _ HT).mono ?_
      rintro e w4 ⟨rfl, hbn⟩
      replace k0_0 := pw_cell_below hbn k0_0
      replace k0_1 := pw_cell_below hbn k0_1
      replace k0_2 := pw_cell_below hbn k0_2
      replace k0_3 := pw_cell_below hbn k0_3
      replace k0_4 := pw_cell_below hbn k0_4
      replace k0_5 := pw_cell_below hbn k0_5
      replace k0_6 := pw_cell_below hbn k0_6
      replace k0_7 := pw_cell_below hbn k0_7
      replace k1_0 := pw_cell_below hbn k1_0
      replace k1_1 := pw_cell_below hbn k1_1
      replace k1_2 := pw_cell_below hbn k1_2
      replace k1_3 := pw_cell_below hbn k1_3
      replace k1_4 := pw_cell_below hbn k1_4
      replace k1_5 := pw_cell_below hbn k1_5
      replace k1_6 := pw_cell_below hbn k1_6
      replace k1_7 := pw_cell_below hbn k1_7
      replace K2 := Lib.hid (blk_below K2.out hbn)
      replace hB := Lib.hid (below_then hB.out hB.out.size hbn)
      clear hbn
      have Z := K2.out
      have z0 := blk_frozen Z 0
      have z1 := blk_frozen Z 1
      have z2 := blk_frozen Z 2
      have z3 := blk_frozen Z 3
      have z4 := blk_frozen Z 4
      have z5 := blk_frozen Z 5
      have z6 := blk_frozen Z 6
      have z7 := blk_frozen Z 7
      have y0 := blk_cell Z 0
      have y1 := blk_cell Z 1
      have y2 := blk_cell Z 2
      have y3 := blk_cell Z 3
      have y4 := blk_cell Z 4
      have y5 := blk_cell Z 5
      have y6 := blk_cell Z 6
      have y7 := blk_cell Z 7
      go_wp2
      refine bodyPost_ret (v := .agg #[.bool r0, .bool r1, .int .i64 r2, .int .i64 r3, .string r4, .int .i64 r5, .int .i64 r6, .string r7]) (by simp [results, Tryz.results185, go_sem, *]) rfl ⟨rfl, ?_⟩
      repeat (refine below_set ?_ (by first | exact Nat.le_refl _ | exact Nat.le_add_right _ _ | (show w.heap.size ≤ w.heap.size + 1 + 1; omega)))
      exact hB.out
    | true =>
      cases eq with
      | false =>
        go_wp2_with fail
        refine (bounds_truth.calls _ _ _ r0 r1 r2 r3 r4 r5 r6 r7 _ HT).mono ?_
        rintro e w4 ⟨rfl, hbn⟩
        replace k0_0 := pw_cell_below hbn k0_0
        replace k0_1 := pw_cell_below hbn k0_1
        replace k0_2 := pw_cell_below hbn k0_2
        replace k0_3 := pw_cell_below hbn k0_3
        replace k0_4 := pw_cell_below hbn k0_4
        replace k0_5 := pw_cell_below hbn k0_5
        replace k0_6 := pw_cell_below hbn k0_6
        replace k0_7 := pw_cell_below hbn k0_7
        replace k1_0 := pw_cell_below hbn k1_0
        replace k1_1 := pw_cell_below hbn k1_1
        replace k1_2 := pw_cell_below hbn k1_2
        replace k1_3 := pw_cell_below hbn k1_3
        replace k1_4 := pw_cell_below hbn k1_4
        replace k1_5 := pw_cell_below hbn k1_5
        replace k1_6 := pw_cell_below hbn k1_6
        replace k1_7 := pw_cell_below hbn k1_7
        replace K2 := Lib.hid (blk_below K2.out hbn)
        replace hB := Lib.hid (below_then hB.out hB.out.size hbn)
        clear hbn
        have Z := K2.out
        have z0 := blk_frozen Z 0
        have z1 := blk_frozen Z 1
        have z2 := blk_frozen Z 2
        have z3 := blk_frozen Z 3
        have z4 := blk_frozen Z 4
        have z5 := blk_frozen Z 5
        have z6 := blk_frozen Z 6
        have z7 := blk_frozen Z 7
        have y0 := blk_cell Z 0
        have y1 := blk_cell Z 1
        have y2 := blk_cell Z 2
        have y3 := blk_cell Z 3
        have y4 := blk_cell Z 4
        have y5 := blk_cell Z 5
        have y6 := blk_cell Z 6
        have y7 := blk_cell Z 7
        go_wp2
        refine bodyPost_ret (v := .agg #[.bool r0, .bool r1, .int .i64 r2, .int .i64 r3, .string r4, .int .i64 r5, .int .i64 r6, .string r7]) (by simp [results, Tryz.results185, go_sem, *]) rfl ⟨rfl, ?_⟩
        repeat (refine below_set ?_ (by first | exact Nat.le_refl _ | exact Nat.le_add_right _ _ | (show w.heap.size ≤ w.heap.size + 1 + 1; omega)))
        exact hB.out
      | true =>
        go_wp2_with fail
        refine (bounds_truth.calls _ _ _ r0 r1 r2 r3 r4 r5 r6 r7 _ HT).mono ?_
        rintro e w4 ⟨rfl, hbn⟩
        replace k0_0 := pw_cell_below hbn k0_0
        replace k0_1 := pw_cell_below hbn k0_1
        replace k0_2 := pw_cell_below hbn k0_2
        replace k0_3 := pw_cell_below hbn k0_3
        replace k0_4 := pw_cell_below hbn k0_4
        replace k0_5 := pw_cell_below hbn k0_5
        replace k0_6 := pw_cell_below hbn k0_6
        replace k0_7 := pw_cell_below hbn k0_7
        replace k1_0 := pw_cell_below hbn k1_0
        replace k1_1 := pw_cell_below hbn k1_1
        replace k1_2 := pw_cell_below hbn k1_2
        replace k1_3 := pw_cell_below hbn k1_3
        replace k1_4 := pw_cell_below hbn k1_4
        replace k1_5 := pw_cell_below hbn k1_5
        replace k1_6 := pw_cell_below hbn k1_6
        replace k1_7 := pw_cell_below hbn k1_7
        replace K2 := Lib.hid (blk_below K2.out hbn)
        replace hB := Lib.hid (below_then hB.out hB.out.size hbn)
        clear hbn
        have Z := K2.out
        have z0 := blk_frozen Z 0
        have z1 := blk_frozen Z 1
        have z2 := blk_frozen Z 2
        have z3 := blk_frozen Z 3
        have z4 := blk_frozen Z 4
        have z5 := blk_frozen Z 5
        have z6 := blk_frozen Z 6
        have z7 := blk_frozen Z 7
        have y0 := blk_cell Z 0
        have y1 := blk_cell Z 1
        have y2 := blk_cell Z 2
        have y3 := blk_cell Z 3
        have y4 := blk_cell Z 4
        have y5 := blk_cell Z 5
        have y6 := blk_cell Z 6
        have y7 := blk_cell Z 7
        go_wp2
        refine bodyPost_ret (v := .agg #[.bool r0, .bool r1, .int .i64 r2, .int .i64 r3, .string r4, .int .i64 r5, .int .i64 r6, .string r7]) (by simp [results, Tryz.results185, go_sem, *]) rfl ⟨rfl, ?_⟩
        repeat (refine below_set ?_ (by first | exact Nat.le_refl _ | exact Nat.le_add_right _ _ | (show w.heap.size ≤ w.heap.size + 1 + 1; omega)))
        exact hB.out
set_option maxRecDepth 100000 in
set_option maxHeartbeats 8000000 in
theorem bounds_span_equal.most (K : Nat) (n0 h0 : Bool) (a0 a1 : Int) (a2 : ByteArray) (b0 b1 : Int) (b2 : ByteArray) (n1 h1 : Bool) (c0 c1 : Int) (c2 : ByteArray) (d0 d1 : Int) (d2 : ByteArray) (p q : Int) (s1 s2 eq : Bool)
    (e1 : decide (p < 0) = false) (H1 : value_Cmp.f K b0 b1 b2 c0 c1 c2 = some p) (e2 : decide (q < 0) = true) (H2 : value_Cmp.f K d0 d1 d2 a0 a1 a2 = some q)
    (e3 : (a0 == b0 && (a1 == b1 && (a2.toList == b2.toList))) = s1) (e4 : (c0 == d0 && (c1 == d1 && (c2.toList == d2.toList))) = s2) (e5 : (a0 == c0 && (a1 == c1 && (a2.toList == c2.toList))) = eq)
    (r0 r1 : Bool) (r2 r3 : Int) (r4 : ByteArray) (r5 r6 : Int) (r7 : ByteArray) (HT : bounds_truth.f (!(s1 && s2 && eq)) (false) false = some (r0, r1, r2, r3, r4, r5, r6, r7)) (w : World) :
    Calls Tryz.prog 185 #[.agg #[.bool n0, .bool h0, .int .i64 a0, .int .i64 a1, .string a2, .int .i64 b0, .int .i64 b1, .string b2], .agg #[.bool n1, .bool h1, .int .i64 c0, .int .i64 c1, .string c2, .int .i64 d0, .int .i64 d1, .string d2]] w fun e w' => e = .returned (.agg #[.bool r0, .bool r1, .int .i64 r2, .int .i64 r3, .string r4, .int .i64 r5, .int .i64 r6, .string r7]) ∧ Below w.heap.size w w' := by
  have hu161 := Tryz.underlying161
  have hu35 := Tryz.underlying35
  go_enter Tryz.func185, Tryz.ntmps185
  go_wp2_with fail
  have K0 := blk_alloc (blk_alloc (heap_alloc_new w (.cells #[.bool n0, .bool h0, .int .i64 a0, .int .i64 a1, .string a2, .int .i64 b0, .int .i64 b1, .string b2] 161)) (.cells #[.bool n1, .bool h1, .int .i64 c0, .int .i64 c1, .string c2, .int .i64 d0, .int .i64 d1, .string d2] 161)) (.cells #[.bool false, .bool false, .int .i64 0, .int .i64 0, .string ⟨#[]⟩, .int .i64 0, .int .i64 0, .string ⟨#[]⟩] 161)
  have K1 := blk_alloc (heap_alloc_new (w.alloc (.cells #[.bool n0, .bool h0, .int .i64 a0, .int .i64 a1, .string a2, .int .i64 b0, .int .i64 b1, .string b2] 161)) (.cells #[.bool n1, .bool h1, .int .i64 c0, .int .i64 c1, .string c2, .int .i64 d0, .int .i64 d1, .string d2] 161)) (.cells #[.bool false, .bool false, .int .i64 0, .int .i64 0, .string ⟨#[]⟩, .int .i64 0, .int .i64 0, .string ⟨#[]⟩] 161)
  have K2 := heap_alloc_new ((w.alloc (.cells #[.bool n0, .bool h0, .int .i64 a0, .int .i64 a1, .string a2, .int .i64 b0, .int .i64 b1, .string b2] 161)).alloc (.cells #[.bool n1, .bool h1, .int .i64 c0, .int .i64 c1, .string c2, .int .i64 d0, .int .i64 d1, .string d2] 161)) (.cells #[.bool false, .bool false, .int .i64 0, .int .i64 0, .string ⟨#[]⟩, .int .i64 0, .int .i64 0, .string ⟨#[]⟩] 161)
  have hB := Lib.hid ((((Below.refl _ w).alloc (Nat.le_refl _) (.cells #[.bool n0, .bool h0, .int .i64 a0, .int .i64 a1, .string a2, .int .i64 b0, .int .i64 b1, .string b2] 161)).alloc (by simp only [World.size_alloc]; omega) (.cells #[.bool n1, .bool h1, .int .i64 c0, .int .i64 c1, .string c2, .int .i64 d0, .int .i64 d1, .string d2] 161)).alloc (by simp only [World.size_alloc]; omega) (.cells #[.bool false, .bool false, .int .i64 0, .int .i64 0, .string ⟨#[]⟩, .int .i64 0, .int .i64 0, .string ⟨#[]⟩] 161))
  simp only [World.size_alloc] at K1 K2
  generalize ((w.alloc (.cells #[.bool n0, .bool h0, .int .i64 a0, .int .i64 a1, .string a2, .int .i64 b0, .int .i64 b1, .string b2] 161)).alloc (.cells #[.bool n1, .bool h1, .int .i64 c0, .int .i64 c1, .string c2, .int .i64 d0, .int .i64 d1, .string d2] 161)).alloc (.cells #[.bool false, .bool false, .int .i64 0, .int .i64 0, .string ⟨#[]⟩, .int .i64 0, .int .i64 0, .string ⟨#[]⟩] 161) = W at *
  have k0_0 : W.cell? ⟨w.heap.size, 0, none⟩ = some (.bool n0) := (blk_cell K0 0).trans rfl
  have k0_1 : W.cell? ⟨w.heap.size, 1, none⟩ = some (.bool h0) := (blk_cell K0 1).trans rfl
  have k0_2 : W.cell? ⟨w.heap.size, 2, none⟩ = some (.int .i64 a0) := (blk_cell K0 2).trans rfl
  have k0_3 : W.cell? ⟨w.heap.size, 3, none⟩ = some (.int .i64 a1) := (blk_cell K0 3).trans rfl
  have k0_4 : W.cell? ⟨w.heap.size, 4, none⟩ = some (.string a2) := (blk_cell K0 4).trans rfl
  have k0_5 : W.cell? ⟨w.heap.size, 5, none⟩ = some (.int .i64 b0) := (blk_cell K0 5).trans rfl
  have k0_6 : W.cell? ⟨w.heap.size, 6, none⟩ = some (.int .i64 b1) := (blk_cell K0 6).trans rfl
  have k0_7 : W.cell? ⟨w.heap.size, 7, none⟩ = some (.string b2) := (blk_cell K0 7).trans rfl
  have k1_0 : W.cell? ⟨w.heap.size + 1, 0, none⟩ = some (.bool n1) := (blk_cell K1 0).trans rfl
  have k1_1 : W.cell? ⟨w.heap.size + 1, 1, none⟩ = some (.bool h1) := (blk_cell K1 1).trans rfl
  have k1_2 : W.cell? ⟨w.heap.size + 1, 2, none⟩ = some (.int .i64 c0) := (blk_cell K1 2).trans rfl
  have k1_3 : W.cell? ⟨w.heap.size + 1, 3, none⟩ = some (.int .i64 c1) := (blk_cell K1 3).trans rfl
  have k1_4 : W.cell? ⟨w.heap.size + 1, 4, none⟩ = some (.string c2) := (blk_cell K1 4).trans rfl
  have k1_5 : W.cell? ⟨w.heap.size + 1, 5, none⟩ = some (.int .i64 d0) := (blk_cell K1 5).trans rfl
  have k1_6 : W.cell? ⟨w.heap.size + 1, 6, none⟩ = some (.int .i64 d1) := (blk_cell K1 6).trans rfl
  have k1_7 : W.cell? ⟨w.heap.size + 1, 7, none⟩ = some (.string d2) := (blk_cell K1 7).trans rfl
  replace K2 := Lib.hid K2
  clear K0 K1
  go_wp2_with fail
  refine (value_Cmp.calls K b0 b1 b2 c0 c1 c2 p _ H1).mono ?_
  rintro e w1 ⟨rfl, hbn⟩
  replace k0_0 := pw_cell_below hbn k0_0
  replace k0_1 := pw_cell_below hbn k0_1
  replace k0_2 := pw_cell_below hbn k0_2
  replace k0_3 := pw_cell_below hbn k0_3
  replace k0_4 := pw_cell_below hbn k0_4
  replace k0_5 := pw_cell_below hbn k0_5
  replace k0_6 := pw_cell_below hbn k0_6
  replace k0_7 := pw_cell_below hbn k0_7
  replace k1_0 := pw_cell_below hbn k1_0
  replace k1_1 := pw_cell_below hbn k1_1
  replace k1_2 := pw_cell_below hbn k1_2
  replace k1_3 := pw_cell_below hbn k1_3
  replace k1_4 := pw_cell_below hbn k1_4
  replace k1_5 := pw_cell_below hbn k1_5
  replace k1_6 := pw_cell_below hbn k1_6
  replace k1_7 := pw_cell_below hbn k1_7
  replace K2 := Lib.hid (blk_below K2.out hbn)
  replace hB := Lib.hid (below_then hB.out hB.out.size hbn)
  clear hbn
  go_wp2_with fail
  refine (value_Cmp.calls K d0 d1 d2 a0 a1 a2 q _ H2).mono ?_
  rintro e w2 ⟨rfl, hbn⟩
  replace k0_0 := pw_cell_below hbn k0_0
  replace k0_1 := pw_cell_below hbn k0_1
  replace k0_2 := pw_cell_below hbn k0_2
  replace k0_3 := pw_cell_below hbn k0_3
  replace k0_4 := pw_cell_below hbn k0_4
  replace k0_5 := pw_cell_below hbn k0_5
  replace k0_6 := pw_cell_below hbn k0_6
  replace k0_7 := pw_cell_below hbn k0_7
  replace k1_0 := pw_cell_below hbn k1_0
  replace k1_1 := pw_cell_below hbn k1_1
  replace k1_2 := pw_cell_below hbn k1_2
  replace k1_3 := pw_cell_below hbn k1_3
  replace k1_4 := pw_cell_below hbn k1_4
  replace k1_5 := pw_cell_below hbn k1_5
  replace k1_6 := pw_cell_below hbn k1_6
  replace k1_7 := pw_cell_below hbn k1_7
  replace K2 := Lib.hid (blk_below K2.out hbn)
  replace hB := Lib.hid (below_then hB.out hB.out.size hbn)
  clear hbn
  go_wp2_with fail
  refine (bounds_span_single.calls n0 h0 a0 a1 a2 b0 b1 b2 s1 _ (congrArg some e3)).mono ?_
  rintro e w3 ⟨rfl, hbn⟩
  replace k0_0 := pw_cell_below hbn k0_0
  replace k0_1 := pw_cell_below hbn k0_1
  replace k0_2 := pw_cell_below hbn k0_2
  replace k0_3 := pw_cell_below hbn k0_3
  replace k0_4 := pw_cell_below hbn k0_4
  replace k0_5 := pw_cell_below hbn k0_5
  replace k0_6 := pw_cell_below hbn k0_6
  replace k0_7 := pw_cell_below hbn k0_7
  replace k1_0 := pw_cell_below hbn k1_0
  replace k1_1 := pw_cell_below hbn k1_1
  replace k1_2 := pw_cell_below hbn k1_2
  replace k1_3 := pw_cell_below hbn k1_3
  replace k1_4 := pw_cell_below hbn k1_4
  replace k1_5 := pw_cell_below hbn k1_5
  replace k1_6 := pw_cell_below hbn k1_6
  replace k1_7 := pw_cell_below hbn k1_7
  replace K2 := Lib.hid (blk_below K2.out hbn)
  replace hB := Lib.hid (below_then hB.out hB.out.size hbn)
  clear hbn
  cases s1 with
  | false =>
    go_wp2_with fail
    refine (bounds_truth.calls _ _ _ r0 r1 r2 r3 r4 r5 r6 r7 _ HT).mono ?_
    rintro e w4 ⟨rfl, hbn⟩
    replace k0_0 := pw_cell_below hbn k0_0
    replace k0_1 := pw_cell_below hbn k0_1
    replace k0_2 := pw_cell_below hbn k0_2
    replace k0_3 := pw_cell_below hbn k0_3
    replace k0_4 := pw_cell_below hbn k0_4
    replace k0_5 := pw_cell_below hbn k0_5
    replace k0_6 := pw_cell_below hbn k0_6
    replace k0_7 := pw_cell_below hbn k0_7
    replace k1_0 := pw_cell_below hbn k1_0
    replace k1_1 := pw_cell_below hbn k1_1
    replace k1_2 := pw_cell_below hbn k1_2
    replace k1_3 := pw_cell_below hbn k1_3
    replace k1_4 := pw_cell_below hbn k1_4
    replace k1_5 := pw_cell_below hbn k1_5
    replace k1_6 := pw_cell_below hbn k1_6
    replace k1_7 := pw_cell_below hbn k1_7
    replace K2 := Lib.hid (blk_below K2.out hbn)
    replace hB := Lib.hid (below_then hB.out hB.out.size hbn)
    clear hbn
    have Z := K2.out
    have z0 := blk_frozen Z 0
    have z1 := blk_frozen Z 1
    have z2 := blk_frozen Z 2
    have z3 := blk_frozen Z 3
    have z4 := blk_frozen Z 4
    have z5 := blk_frozen Z 5
    have z6 := blk_frozen Z 6
    have z7 := blk_frozen Z 7
    have y0 := blk_cell Z 0
    have y1 := blk_cell Z 1
    have y2 := blk_cell Z 2
    have y3 := blk_cell Z 3
    have y4 := blk_cell Z 4
    have y5 := blk_cell Z 5
    have y6 := blk_cell Z 6
    have y7 := blk_cell Z 7
    go_wp2
    refine bodyPost_ret (v := .agg #[.bool r0, .bool r1, .int .i64 r2, .int .i64 r3, .string r4, .int .i64 r5, .int .i64 r6, .string r7]) (by simp [results, Tryz.results185, go_sem, *]) rfl ⟨rfl, ?_⟩
    repeat (refine below_set ?_ (by first | exact Nat.le_refl _ | exact Nat.le_add_right _ _ | (show w.heap.size ≤ w.heap.size + 1 + 1; omega)))
    exact hB.out
  | true =>
    go_wp2_with fail
    refine (bounds_span_single.calls n1 h1 c0 c1 c2 d0 d1 d2 s2 _ (congrArg some e4)).mono ?_
    rintro e w4 ⟨rfl, hbn⟩
    replace k0_0 := pw_cell_below hbn k0_0
    replace k0_1 := pw_cell_below hbn k0_1
    replace k0_2 := pw_cell_below hbn k0_2
    replace k0_3 := pw_cell_below hbn k0_3
    replace k0_4 := pw_cell_below hbn k0_4
    replace k0_5 := pw_cell_below hbn k0_5
    replace k0_6 := pw_cell_below hbn k0_6
    replace k0_7 := pw_cell_below hbn k0_7
    replace k1_0 := pw_cell_below hbn k1_0
    replace k1_1 := pw_cell_below hbn k1_1
    replace k1_2 := pw_cell_below hbn k1_2
    replace k1_3 := pw_cell_below hbn k1_3
    replace k1_4 := pw_cell_below hbn k1_4
    replace k1_5 := pw_cell_below hbn k1_5
    replace k1_6 := pw_cell_below hbn k1_6
    replace k1_7 := pw_cell_below hbn k1_7
    replace K2 := Lib.hid (blk_below K2.out hbn)
    replace hB := Lib.hid (below_then hB.out hB.out.size hbn)
    clear hbn
    cases s2 with
    | false =>
      go_wp2_with fail
      refine (bounds_truth.calls _ _ _ r0 r1 r2 r3 r4 r5 r6 r7 _ HT).mono ?_
      rintro e w5 ⟨rfl, hbn⟩
      replace k0_0 := pw_cell_below hbn k0_0
      replace k0_1 := pw_cell_below hbn k0_1
      replace k0_2 := pw_cell_below hbn k0_2
      replace k0_3 := pw_cell_below hbn k0_3
      replace k0_4 := pw_cell_below hbn k0_4
      replace k0_5 := pw_cell_below hbn k0_5
      replace k0_6 := pw_cell_below hbn k0_6
      replace k0_7 := pw_cell_below hbn k0_7
      replace k1_0 := pw_cell_below hbn k1_0
      replace k1_1 := pw_cell_below hbn k1_1
      replace k1_2 := pw_cell_below hbn k1_2
      replace k1_3 := pw_cell_below hbn k1_3
      replace k1_4 := pw_cell_below hbn k1_4
      replace k1_5 := pw_cell_below hbn k1_5
      replace k1_6 := pw_cell_below hbn k1_6
      replace k1_7 := pw_cell_below hbn k1_7
      replace K2 := Lib.hid (blk_below K2.out hbn)
      replace hB := Lib.hid (below_then hB.out hB.out.size hbn)
      clear hbn
      have Z := K2.out
      have z0 := blk_frozen Z 0
      have z1 := blk_frozen Z 1
      have z2 := blk_frozen Z 2
      have z3 := blk_frozen Z 3
      have z4 := blk_frozen Z 4
      have z5 := blk_frozen Z 5
      have z6 := blk_frozen Z 6
      have z7 := blk_frozen Z 7
      have y0 := blk_cell Z 0
      have y1 := blk_cell Z 1
      have y2 := blk_cell Z 2
      have y3 := blk_cell Z 3
      have y4 := blk_cell Z 4
      have y5 := blk_cell Z 5
      have y6 := blk_cell Z 6
      have y7 := blk_cell Z 7
      go_wp2
      refine bodyPost_ret (v := .agg #[.bool r0, .bool r1, .int .i64 r2, .int .i64 r3, .string r4, .int .i64 r5, .int .i64 r6, .string r7]) (by simp [results, Tryz.results185, go_sem, *]) rfl ⟨rfl, ?_⟩
      repeat (refine below_set ?_ (by first | exact Nat.le_refl _ | exact Nat.le_add_right _ _ | (show w.heap.size ≤ w.heap.size + 1 + 1; omega)))
      exact hB.out
    | true =>
      cases eq with
      | false =>
        go_wp2_with fail
        refine (bounds_truth.calls _ _ _ r0 r1 r2 r3 r4 r5 r6 r7 _ HT).mono ?_
        rintro e w5 ⟨rfl, hbn⟩
        replace k0_0 := pw_cell_below hbn k0_0
        replace k0_1 := pw_cell_below hbn k0_1
        replace k0_2 := pw_cell_below hbn k0_2
        replace k0_3 := pw_cell_below hbn k0_3
        replace k0_4 := pw_cell_below hbn k0_4
        replace k0_5 := pw_cell_below hbn k0_5
        replace k0_6 := pw_cell_below hbn k0_6
        replace k0_7 := pw_cell_below hbn k0_7
        replace k1_0 := pw_cell_below hbn k1_0
        replace k1_1 := pw_cell_below hbn k1_1
        replace k1_2 := pw_cell_below hbn k1_2
        replace k1_3 := pw_cell_below hbn k1_3
        replace k1_4 := pw_cell_below hbn k1_4
        replace k1_5 := pw_cell_below hbn k1_5
        replace k1_6 := pw_cell_below hbn k1_6
        replace k1_7 := pw_cell_below hbn k1_7
        replace K2 := Lib.hid (blk_below K2.out hbn)
        replace hB := Lib.hid (below_then hB.out hB.out.size hbn)
        clear hbn
        have Z := K2.out
        have z0 := blk_frozen Z 0
        have z1 := blk_frozen Z 1
        have z2 := blk_frozen Z 2
        have z3 := blk_frozen Z 3
        have z4 := blk_frozen Z 4
        have z5 := blk_frozen Z 5
        have z6 := blk_frozen Z 6
        have z7 := blk_frozen Z 7
        have y0 := blk_cell Z 0
        have y1 := blk_cell Z 1
        have y2 := blk_cell Z 2
        have y3 := blk_cell Z 3
        have y4 := blk_cell Z 4
        have y5 := blk_cell Z 5
        have y6 := blk_cell Z 6
        have y7 := blk_cell Z 7
        go_wp2
        refine bodyPost_ret (v := .agg #[.bool r0, .bool r1, .int .i64 r2, .int .i64 r3, .string r4, .int .i64 r5, .int .i64 r6, .string r7]) (by simp [results, Tryz.results185, go_sem, *]) rfl ⟨rfl, ?_⟩
        repeat (refine below_set ?_ (by first | exact Nat.le_refl _ | exact Nat.le_add_right _ _ | (show w.heap.size ≤ w.heap.size + 1 + 1; omega)))
        exact hB.out
      | true =>
        go_wp2_with fail
        refine (bounds_truth.calls _ _ _ r0 r1 r2 r3 r4 r5 r6 r7 _ HT).mono ?_
        rintro e w5 ⟨rfl, hbn⟩
        replace k0_0 := pw_cell_below hbn k0_0
        replace k0_1 := pw_cell_below hbn k0_1
        replace k0_2 := pw_cell_below hbn k0_2
        replace k0_3 := pw_cell_below hbn k0_3
        replace k0_4 := pw_cell_below hbn k0_4
        replace k0_5 := pw_cell_below hbn k0_5
        replace k0_6 := pw_cell_below hbn k0_6
        replace k0_7 := pw_cell_below hbn k0_7
        replace k1_0 := pw_cell_below hbn k1_0
        replace k1_1 := pw_cell_below hbn k1_1
        replace k1_2 := pw_cell_below hbn k1_2
        replace k1_3 := pw_cell_below hbn k1_3
        replace k1_4 := pw_cell_below hbn k1_4
        replace k1_5 := pw_cell_below hbn k1_5
        replace k1_6 := pw_cell_below hbn k1_6
        replace k1_7 := pw_cell_below hbn k1_7
        replace K2 := Lib.hid (blk_below K2.out hbn)
        replace hB := Lib.hid (below_then hB.out hB.out.size hbn)
        clear hbn
        have Z := K2.out
        have z0 := blk_frozen Z 0
        have z1 := blk_frozen Z 1
        have z2 := blk_frozen Z 2
        have z3 := blk_frozen Z 3
        have z4 := blk_frozen Z 4
        have z5 := blk_frozen Z 5
        have z6 := blk_frozen Z 6
        have z7 := blk_frozen Z 7
        have y0 := blk_cell Z 0
        have y1 := blk_cell Z 1
        have y2 := blk_cell Z 2
        have y3 := blk_cell Z 3
        have y4 := blk_cell Z 4
        have y5 := blk_cell Z 5
        have y6 := blk_cell Z 6
        have y7 := blk_cell Z 7
        go_wp2
        refine bodyPost_ret (v := .agg #[.bool r0, .bool r1, .int .i64 r2, .int .i64 r3, .string r4, .int .i64 r5, .int .i64 r6, .string r7]) (by simp [results, Tryz.results185, go_sem, *]) rfl ⟨rfl, ?_⟩
        repeat (refine below_set ?_ (by first | exact Nat.le_refl _ | exact Nat.le_add_right _ _ | (show w.heap.size ≤ w.heap.size + 1 + 1; omega)))
        exact hB.out
set_option maxRecDepth 100000 in
set_option maxHeartbeats 8000000 in
theorem bounds_span_equal.meet (K : Nat) (n0 h0 : Bool) (a0 a1 : Int) (a2 : ByteArray) (b0 b1 : Int) (b2 : ByteArray) (n1 h1 : Bool) (c0 c1 : Int) (c2 : ByteArray) (d0 d1 : Int) (d2 : ByteArray) (p q : Int) (s1 s2 eq : Bool)
    (e1 : decide (p < 0) = false) (H1 : value_Cmp.f K b0 b1 b2 c0 c1 c2 = some p) (e2 : decide (q < 0) = false) (H2 : value_Cmp.f K d0 d1 d2 a0 a1 a2 = some q)
    (e3 : (a0 == b0 && (a1 == b1 && (a2.toList == b2.toList))) = s1) (e4 : (c0 == d0 && (c1 == d1 && (c2.toList == d2.toList))) = s2) (e5 : (a0 == c0 && (a1 == c1 && (a2.toList == c2.toList))) = eq)
    (r0 r1 : Bool) (r2 r3 : Int) (r4 : ByteArray) (r5 r6 : Int) (r7 : ByteArray) (HT : bounds_truth.f (!(s1 && s2 && eq)) (true) false = some (r0, r1, r2, r3, r4, r5, r6, r7)) (w : World) :
    Calls Tryz.prog 185 #[.agg #[.bool n0, .bool h0, .int .i64 a0, .int .i64 a1, .string a2, .int .i64 b0, .int .i64 b1, .string b2], .agg #[.bool n1, .bool h1, .int .i64 c0, .int .i64 c1, .string c2, .int .i64 d0, .int .i64 d1, .string d2]] w fun e w' => e = .returned (.agg #[.bool r0, .bool r1, .int .i64 r2, .int .i64 r3, .string r4, .int .i64 r5, .int .i64 r6, .string r7]) ∧ Below w.heap.size w w' := by
  have hu161 := Tryz.underlying161
  have hu35 := Tryz.underlying35
  go_enter Tryz.func185, Tryz.ntmps185
  go_wp2_with fail
  have K0 := blk_alloc (blk_alloc (heap_alloc_new w (.cells #[.bool n0, .bool h0, .int .i64 a0, .int .i64 a1, .string a2, .int .i64 b0, .int .i64 b1, .string b2] 161)) (.cells #[.bool n1, .bool h1, .int .i64 c0, .int .i64 c1, .string c2, .int .i64 d0, .int .i64 d1, .string d2] 161)) (.cells #[.bool false, .bool false, .int .i64 0, .int .i64 0, .string ⟨#[]⟩, .int .i64 0, .int .i64 0, .string ⟨#[]⟩] 161)
  have K1 := blk_alloc (heap_alloc_new (w.alloc (.cells #[.bool n0, .bool h0, .int .i64 a0, .int .i64 a1, .string a2, .int .i64 b0, .int .i64 b1, .string b2] 161)) (.cells #[.bool n1, .bool h1, .int .i64 c0, .int .i64 c1, .string c2, .int .i64 d0, .int .i64 d1, .string d2] 161)) (.cells #[.bool false, .bool false, .int .i64 0, .int .i64 0, .string ⟨#[]⟩, .int .i64 0, .int .i64 0, .string ⟨#[]⟩] 161)
  have K2 := heap_alloc_new ((w.alloc (.cells #[.bool n0, .bool h0, .int .i64 a0, .int .i64 a1, .string a2, .int .i64 b0, .int .i64 b1, .string b2] 161)).alloc (.cells #[.bool n1, .bool h1, .int .i64 c0, .int .i64 c1, .string c2, .int .i64 d0, .int .i64 d1, .string d2] 161)) (.cells #[.bool false, .bool false, .int .i64 0, .int .i64 0, .string ⟨#[]⟩, .int .i64 0, .int .i64 0, .string ⟨#[]⟩] 161)
  have hB := Lib.hid ((((Below.refl _ w).alloc (Nat.le_refl _) (.cells #[.bool n0, .bool h0, .int .i64 a0, .int .i64 a1, .string a2, .int .i64 b0, .int .i64 b1, .string b2] 161)).alloc (by simp only [World.size_alloc]; omega) (.cells #[.bool n1, .bool h1, .int .i64 c0, .int .i64 c1, .string c2, .int .i64 d0, .int .i64 d1, .string d2] 161)).alloc (by simp only [World.size_alloc]; omega) (.cells #[.bool false, .bool false, .int .i64 0, .int .i64 0, .string ⟨#[]⟩, .int .i64 0, .int .i64 0, .string ⟨#[]⟩] 161))
  simp only [World.size_alloc] at K1 K2
  generalize ((w.alloc (.cells #[.bool n0, .bool h0, .int .i64 a0, .int .i64 a1, .string a2, .int .i64 b0, .int .i64 b1, .string b2] 161)).alloc (.cells #[.bool n1, .bool h1, .int .i64 c0, .int .i64 c1, .string c2, .int .i64 d0, .int .i64 d1, .string d2] 161)).alloc (.cells #[.bool false, .bool false, .int .i64 0, .int .i64 0, .string ⟨#[]⟩, .int .i64 0, .int .i64 0, .string ⟨#[]⟩] 161) = W at *
  have k0_0 : W.cell? ⟨w.heap.size, 0, none⟩ = some (.bool n0) := (blk_cell K0 0).trans rfl
  have k0_1 : W.cell? ⟨w.heap.size, 1, none⟩ = some (.bool h0) := (blk_cell K0 1).trans rfl
  have k0_2 : W.cell? ⟨w.heap.size, 2, none⟩ = some (.int .i64 a0) := (blk_cell K0 2).trans rfl
  have k0_3 : W.cell? ⟨w.heap.size, 3, none⟩ = some (.int .i64 a1) := (blk_cell K0 3).trans rfl
  have k0_4 : W.cell? ⟨w.heap.size, 4, none⟩ = some (.string a2) := (blk_cell K0 4).trans rfl
  have k0_5 : W.cell? ⟨w.heap.size, 5, none⟩ = some (.int .i64 b0) := (blk_cell K0 5).trans rfl
  have k0_6 : W.cell? ⟨w.heap.size, 6, none⟩ = some (.int .i64 b1) := (blk_cell K0 6).trans rfl
  have k0_7 : W.cell? ⟨w.heap.size, 7, none⟩ = some (.string b2) := (blk_cell K0 7).trans rfl
  have k1_0 : W.cell? ⟨w.heap.size + 1, 0, none⟩ = some (.bool n1) := (blk_cell K1 0).trans rfl
  have k1_1 : W.cell? ⟨w.heap.size + 1, 1, none⟩ = some (.bool h1) := (blk_cell K1 1).trans rfl
  have k1_2 : W.cell? ⟨w.heap.size + 1, 2, none⟩ = some (.int .i64 c0) := (blk_cell K1 2).trans rfl
  have k1_3 : W.cell? ⟨w.heap.size + 1, 3, none⟩ = some (.int .i64 c1) := (blk_cell K1 3).trans rfl
  have k1_4 : W.cell? ⟨w.heap.size + 1, 4, none⟩ = some (.string c2) := (blk_cell K1 4).trans rfl
  have k1_5 : W.cell? ⟨w.heap.size + 1, 5, none⟩ = some (.int .i64 d0) := (blk_cell K1 5).trans rfl
  have k1_6 : W.cell? ⟨w.heap.size + 1, 6, none⟩ = some (.int .i64 d1) := (blk_cell K1 6).trans rfl
  have k1_7 : W.cell? ⟨w.heap.size + 1, 7, none⟩ = some (.string d2) := (blk_cell K1 7).trans rfl
  replace K2 := Lib.hid K2
  clear K0 K1
  go_wp2_with fail
  refine (value_Cmp.calls K b0 b1 b2 c0 c1 c2 p _ H1).mono ?_
  rintro e w1 ⟨rfl, hbn⟩
  replace k0_0 := pw_cell_below hbn k0_0
  replace k0_1 := pw_cell_below hbn k0_1
  replace k0_2 := pw_cell_below hbn k0_2
  replace k0_3 := pw_cell_below hbn k0_3
  replace k0_4 := pw_cell_below hbn k0_4
  replace k0_5 := pw_cell_below hbn k0_5
  replace k0_6 := pw_cell_below hbn k0_6
  replace k0_7 := pw_cell_below hbn k0_7
  replace k1_0 := pw_cell_below hbn k1_0
  replace k1_1 := pw_cell_below hbn k1_1
  replace k1_2 := pw_cell_below hbn k1_2
  replace k1_3 := pw_cell_below hbn k1_3
  replace k1_4 := pw_cell_below hbn k1_4
  replace k1_5 := pw_cell_below hbn k1_5
  replace k1_6 := pw_cell_below hbn k1_6
  replace k1_7 := pw_cell_below hbn k1_7
  replace K2 := Lib.hid (blk_below K2.out hbn)
  replace hB := Lib.hid (below_then hB.out hB.out.size hbn)
  clear hbn
  go_wp2_with fail
  refine (value_Cmp.calls K d0 d1 d2 a0 a1 a2 q _ H2).mono ?_
  rintro e w2 ⟨rfl, hbn⟩
  replace k0_0 := pw_cell_below hbn k0_0
  replace k0_1 := pw_cell_below hbn k0_1
  replace k0_2 := pw_cell_below hbn k0_2
  replace k0_3 := pw_cell_below hbn k0_3
  replace k0_4 := pw_cell_below hbn k0_4
  replace k0_5 := pw_cell_below hbn k0_5
  replace k0_6 := pw_cell_below hbn k0_6
  replace k0_7 := pw_cell_below hbn k0_7
  replace k1_0 := pw_cell_below hbn k1_0
  replace k1_1 := pw_cell_below hbn k1_1
  replace k1_2 := pw_cell_below hbn k1_2
  replace k1_3 := pw_cell_below hbn k1_3
  replace k1_4 := pw_cell_below hbn k1_4
  replace k1_5 := pw_cell_below hbn k1_5
  replace k1_6 := pw_cell_below hbn k1_6
  replace k1_7 := pw_cell_below hbn k1_7
  replace K2 := Lib.hid (blk_below K2.out hbn)
  replace hB := Lib.hid (below_then hB.out hB.out.size hbn)
  clear hbn
  go_wp2_with fail
  refine (bounds_span_single.calls n0 h0 a0 a1 a2 b0 b1 b2 s1 _ (congrArg some e3)).mono ?_
  rintro e w3 ⟨rfl, hbn⟩
  replace k0_0 := pw_cell_below hbn k0_0
  replace k0_1 := pw_cell_below hbn k0_1
  replace k0_2 := pw_cell_below hbn k0_2
  replace k0_3 := pw_cell_below hbn k0_3
  replace k0_4 := pw_cell_below hbn k0_4
  replace k0_5 := pw_cell_below hbn k0_5
  replace k0_6 := pw_cell_below hbn k0_6
  replace k0_7 := pw_cell_below hbn k0_7
  replace k1_0 := pw_cell_below hbn k1_0
  replace k1_1 := pw_cell_below hbn k1_1
  replace k1_2 := pw_cell_below hbn k1_2
  replace k1_3 := pw_cell_below hbn k1_3
  replace k1_4 := pw_cell_below hbn k1_4
  replace k1_5 := pw_cell_below hbn k1_5
  replace k1_6 := pw_cell_below hbn k1_6
  replace k1_7 := pw_cell_below hbn k1_7
  replace K2 := Lib.hid (blk_below K2.out hbn)
  replace hB := Lib.hid (below_then hB.out hB.out.size hbn)
  clear hbn
  cases s1 with
  | false =>
    go_wp2_with fail
    refine (bounds_truth.calls _ _ _ r0 r1 r2 r3 r4 r5 r6 r7 _ HT).mono ?_
    rintro e w4 ⟨rfl, hbn⟩
    replace k0_0 := pw_cell_below hbn k0_0
    replace k0_1 := pw_cell_below hbn k0_1
    replace k0_2 := pw_cell_below hbn k0_2
    replace k0_3 := pw_cell_below hbn k0_3
    replace k0_4 := pw_cell_below hbn k0_4
    replace k0_5 := pw_cell_below hbn k0_5
    replace k0_6 := pw_cell_below hbn k0_6
    replace k0_7 := pw_cell_below hbn k0_7
    replace k1_0 := pw_cell_below hbn k1_0
    replace k1_1 := pw_cell_below hbn k1_1
    replace k1_2 := pw_cell_below hbn k1_2
    replace k1_3 := pw_cell_below hbn k1_3
    replace k1_4 := pw_cell_below hbn k1_4
    replace k1_5 := pw_cell_below hbn k1_5
    replace k1_6 := pw_cell_below hbn k1_6
    replace k1_7 := pw_cell_below hbn k1_7
    replace K2 := Lib.hid (blk_below K2.out hbn)
    replace hB := Lib.hid (below_then hB.out hB.out.size hbn)
    clear hbn
    have Z := K2.out
    have z0 := blk_frozen Z 0
    have z1 := blk_frozen Z 1
    have z2 := blk_frozen Z 2
    have z3 := blk_frozen Z 3
    have z4 := blk_frozen Z 4
    have z5 := blk_frozen Z 5
    have z6 := blk_frozen Z 6
    have z7 := blk_frozen Z 7
    have y0 := blk_cell Z 0
    have y1 := blk_cell Z 1
    have y2 := blk_cell Z 2
    have y3 := blk_cell Z 3
    have y4 := blk_cell Z 4
    have y5 := blk_cell Z 5
    have y6 := blk_cell Z 6
    have y7 := blk_cell Z 7
    go_wp2
    refine bodyPost_ret (v := .agg #[.bool r0, .bool r1, .int .i64 r2, .int .i64 r3, .string r4, .int .i64 r5, .int .i64 r6, .string r7]) (by simp [results, Tryz.results185, go_sem, *]) rfl ⟨rfl, ?_⟩
    repeat (refine below_set ?_ (by first | exact Nat.le_refl _ | exact Nat.le_add_right _ _ | (show w.heap.size ≤ w.heap.size + 1 + 1; omega)))
    exact hB.out
  | true =>
    go_wp2_with fail
    refine (bounds_span_single.calls n1 h1 c0 c1 c2 d0 d1 d2 s2 _ (congrArg some e4)).mono ?_
    rintro e w4 ⟨rfl, hbn⟩
    replace k0_0 := pw_cell_below hbn k0_0
    replace k0_1 := pw_cell_below hbn k0_1
    replace k0_2 := pw_cell_below hbn k0_2
    replace k0_3 := pw_cell_below hbn k0_3
    replace k0_4 := pw_cell_below hbn k0_4
    replace k0_5 := pw_cell_below hbn k0_5
    replace k0_6 := pw_cell_below hbn k0_6
    replace k0_7 := pw_cell_below hbn k0_7
    replace k1_0 := pw_cell_below hbn k1_0
    replace k1_1 := pw_cell_below hbn k1_1
    replace k1_2 := pw_cell_below hbn k1_2
    replace k1_3 := pw_cell_below hbn k1_3
    replace k1_4 := pw_cell_below hbn k1_4
    replace k1_5 := pw_cell_below hbn k1_5
    replace k1_6 := pw_cell_below hbn k1_6
    replace k1_7 := pw_cell_below hbn k1_7
    replace K2 := Lib.hid (blk_below K2.out hbn)
    replace hB := Lib.hid (below_then hB.out hB.out.size hbn)
    clear hbn
    cases s2 with
    | false =>
      go_wp2_with fail
      refine (bounds_truth.calls _ _ _ r0 r1 r2 r3 r4 r5 r6 r7 _ HT).mono ?_
      rintro e w5 ⟨rfl, hbn⟩
      replace k0_0 := pw_cell_below hbn k0_0
      replace k0_1 := pw_cell_below hbn k0_1
      replace k0_2 := pw_cell_below hbn k0_2
      replace k0_3 := pw_cell_below hbn k0_3
      replace k0_4 := pw_cell_below hbn k0_4
      replace k0_5 := pw_cell_below hbn k0_5
      replace k0_6 := pw_cell_below hbn k0_6
      replace k0_7 := pw_cell_below hbn k0_7
      replace k1_0 := pw_cell_below hbn k1_0
      replace k1_1 := pw_cell_below hbn k1_1
      replace k1_2 := pw_cell_below hbn k1_2
      replace k1_3 := pw_cell_below hbn k1_3
      replace k1_4 := pw_cell_below hbn k1_4
      replace k1_5 := pw_cell_below hbn k1_5
      replace k1_6 := pw_cell_below hbn k1_6
      replace k1_7 := pw_cell_below hbn k1_7
      replace K2 := Lib.hid (blk_below K2.out hbn)
      replace hB := Lib.hid (below_then hB.out hB.out.size hbn)
      clear hbn
      have Z := K2.out
      have z0 := blk_frozen Z 0
      have z1 := blk_frozen Z 1
      have z2 := blk_frozen Z 2
      have z3 := blk_frozen Z 3
      have z4 := blk_frozen Z 4
      have z5 := blk_frozen Z 5
      have z6 := blk_frozen Z 6
      have z7 := blk_frozen Z 7
      have y0 := blk_cell Z 0
      have y1 := blk_cell Z 1
      have y2 := blk_cell Z 2
      have y3 := blk_cell Z 3
      have y4 := blk_cell Z 4
      have y5 := blk_cell Z 5
      have y6 := blk_cell Z 6
      have y7 := blk_cell Z 7
      go_wp2
      refine bodyPost_ret (v := .agg #[.bool r0, .bool r1, .int .i64 r2, .int .i64 r3, .string r4, .int .i64 r5, .int .i64 r6, .string r7]) (by simp [results, Tryz.results185, go_sem, *]) rfl ⟨rfl, ?_⟩
      repeat (refine below_set ?_ (by first | exact Nat.le_refl _ | exact Nat.le_add_right _ _ | (show w.heap.size ≤ w.heap.size + 1 + 1; omega)))
      exact hB.out
    | true =>
      cases eq with
      | false =>
        go_wp2_with fail
        refine (bounds_truth.calls _ _ _ r0 r1 r2 r3 r4 r5 r6 r7 _ HT).mono ?_
        rintro e w5 ⟨rfl, hbn⟩
        replace k0_0 := pw_cell_below hbn k0_0
        replace k0_1 := pw_cell_below hbn k0_1
        replace k0_2 := pw_cell_below hbn k0_2
        replace k0_3 := pw_cell_below hbn k0_3
        replace k0_4 := pw_cell_below hbn k0_4
        replace k0_5 := pw_cell_below hbn k0_5
        replace k0_6 := pw_cell_below hbn k0_6
        replace k0_7 := pw_cell_below hbn k0_7
        replace k1_0 := pw_cell_below hbn k1_0
        replace k1_1 := pw_cell_below hbn k1_1
        replace k1_2 := pw_cell_below hbn k1_2
        replace k1_3 := pw_cell_below hbn k1_3
        replace k1_4 := pw_cell_below hbn k1_4
        replace k1_5 := pw_cell_below hbn k1_5
        replace k1_6 := pw_cell_below hbn k1_6
        replace k1_7 := pw_cell_below hbn k1_7
        replace K2 := Lib.hid (blk_below K2.out hbn)
        replace hB := Lib.hid (below_then hB.out hB.out.size hbn)
        clear hbn
        have Z := K2.out
        have z0 := blk_frozen Z 0
        have z1 := blk_frozen Z 1
        have z2 := blk_frozen Z 2
        have z3 := blk_frozen Z 3
        have z4 := blk_frozen Z 4
        have z5 := blk_frozen Z 5
        have z6 := blk_frozen Z 6
        have z7 := blk_frozen Z 7
        have y0 := blk_cell Z 0
        have y1 := blk_cell Z 1
        have y2 := blk_cell Z 2
        have y3 := blk_cell Z 3
        have y4 := blk_cell Z 4
        have y5 := blk_cell Z 5
        have y6 := blk_cell Z 6
        have y7 := blk_cell Z 7
        go_wp2
        refine bodyPost_ret (v := .agg #[.bool r0, .bool r1, .int .i64 r2, .int .i64 r3, .string r4, .int .i64 r5, .int .i64 r6, .string r7]) (by simp [results, Tryz.results185, go_sem, *]) rfl ⟨rfl, ?_⟩
        repeat (refine below_set ?_ (by first | exact Nat.le_refl _ | exact Nat.le_add_right _ _ | (show w.heap.size ≤ w.heap.size + 1 + 1; omega)))
        exact hB.out
      | true =>
        go_wp2_with fail
        refine (bounds_truth.calls _ _ _ r0 r1 r2 r3 r4 r5 r6 r7 _ HT).mono ?_
        rintro e w5 ⟨rfl, hbn⟩
        replace k0_0 := pw_cell_below hbn k0_0
        replace k0_1 := pw_cell_below hbn k0_1
        replace k0_2 := pw_cell_below hbn k0_2
        replace k0_3 := pw_cell_below hbn k0_3
        replace k0_4 := pw_cell_below hbn k0_4
        replace k0_5 := pw_cell_below hbn k0_5
        replace k0_6 := pw_cell_below hbn k0_6
        replace k0_7 := pw_cell_below hbn k0_7
        replace k1_0 := pw_cell_below hbn k1_0
        replace k1_1 := pw_cell_below hbn k1_1
        replace k1_2 := pw_cell_below hbn k1_2
        replace k1_3 := pw_cell_below hbn k1_3
        replace k1_4 := pw_cell_below hbn k1_4
        replace k1_5 := pw_cell_below hbn k1_5
        replace k1_6 := pw_cell_below hbn k1_6
        replace k1_7 := pw_cell_below hbn k1_7
        replace K2 := Lib.hid (blk_below K2.out hbn)
        replace hB := Lib.hid (below_then hB.out hB.out.size hbn)
        clear hbn
        have Z := K2.out
        have z0 := blk_frozen Z 0
        have z1 := blk_frozen Z 1
        have z2 := blk_frozen Z 2
        have z3 := blk_frozen Z 3
        have z4 := blk_frozen Z 4
        have z5 := blk_frozen Z 5
        have z6 := blk_frozen Z 6
        have z7 := blk_frozen Z 7
        have y0 := blk_cell Z 0
        have y1 := blk_cell Z 1
        have y2 := blk_cell Z 2
        have y3 := blk_cell Z 3
        have y4 := blk_cell Z 4
        have y5 := blk_cell Z 5
        have y6 := blk_cell Z 6
        have y7 := blk_cell Z 7
        go_wp2
        refine bodyPost_ret (v := .agg #[.bool r0, .bool r1, .int .i64 r2, .int .i64 r3, .string r4, .int .i64 r5, .int .i64 r6, .string r7]) (by simp [results, Tryz.results185, go_sem, *]) rfl ⟨rfl, ?_⟩
        repeat (refine below_set ?_ (by first | exact Nat.le_refl _ | exact Nat.le_add_right _ _ | (show w.heap.size ≤ w.heap.size + 1 + 1; omega)))
        exact hB.out
def bounds_span_equal.ne (a0_0 a0_1 : Bool) (a0_2 a0_3 : Int) (a0_4 : ByteArray) (a0_5 a0_6 : Int) (a0_7 : ByteArray) (a1_0 a1_1 : Bool) (a1_2 a1_3 : Int) (a1_4 : ByteArray) (a1_5 a1_6 : Int) (a1_7 : ByteArray) : Bool := !((a0_2 == a0_5 && (a0_3 == a0_6 && (a0_4.toList == a0_7.toList))) && (a1_2 == a1_5 && (a1_3 == a1_6 && (a1_4.toList == a1_7.toList))) && (a0_2 == a1_2 && (a0_3 == a1_3 && (a0_4.toList == a1_4.toList))))
def bounds_span_equal.f (k : Nat) (a0_0 a0_1 : Bool) (a0_2 a0_3 : Int) (a0_4 : ByteArray) (a0_5 a0_6 : Int) (a0_7 : ByteArray) (a1_0 a1_1 : Bool) (a1_2 a1_3 : Int) (a1_4 : ByteArray) (a1_5 a1_6 : Int) (a1_7 : ByteArray) : Option (Bool × Bool × Int × Int × ByteArray × Int × Int × ByteArray) :=
  (value_Cmp.f k a0_5 a0_6 a0_7 a1_2 a1_3 a1_4).bind fun p => if p < 0 then bounds_truth.f (bounds_span_equal.ne a0_0 a0_1 a0_2 a0_3 a0_4 a0_5 a0_6 a0_7 a1_0 a1_1 a1_2 a1_3 a1_4 a1_5 a1_6 a1_7) false false else
    (value_Cmp.f k a1_5 a1_6 a1_7 a0_2 a0_3 a0_4).bind fun q => bounds_truth.f (bounds_span_equal.ne a0_0 a0_1 a0_2 a0_3 a0_4 a0_5 a0_6 a0_7 a1_0 a1_1 a1_2 a1_3 a1_4 a1_5 a1_6 a1_7) (!decide (q < 0)) false
theorem bounds_span_equal.calls (k : Nat) (a0_0 a0_1 : Bool) (a0_2 a0_3 : Int) (a0_4 : ByteArray) (a0_5 a0_6 : Int) (a0_7 : ByteArray) (a1_0 a1_1 : Bool) (a1_2 a1_3 : Int) (a1_4 : ByteArray) (a1_5 a1_6 : Int) (a1_7 : ByteArray) (r0 r1 : Bool) (r2 r3 : Int) (r4 : ByteArray) (r5 r6 : Int) (r7 : ByteArray) (w : World) (h : bounds_span_equal.f k a0_0 a0_1 a0_2 a0_3 a0_4 a0_5 a0_6 a0_7 a1_0 a1_1 a1_2 a1_3 a1_4 a1_5 a1_6 a1_7 = some (r0, r1, r2, r3, r4, r5, r6, r7)) :
    Calls Tryz.prog 185 #[.agg #[.bool a0_0, .bool a0_1, .int .i64 a0_2, .int .i64 a0_3, .string a0_4, .int .i64 a0_5, .int .i64 a0_6, .string a0_7], .agg #[.bool a1_0, .bool a1_1, .int .i64 a1_2, .int .i64 a1_3, .string a1_4, .int .i64 a1_5, .int .i64 a1_6, .string a1_7]] w fun e w' => e = .returned (.agg #[.bool r0, .bool r1, .int .i64 r2, .int .i64 r3, .string r4, .int .i64 r5, .int .i64 r6, .string r7]) ∧ Below w.heap.size w w' := by
  obtain ⟨p, hp, h⟩ := Option.bind_eq_some_iff.1 h
  split at h
  · exact bounds_span_equal.less k _ _ _ _ _ _ _ _ _ _ _ _ _ _ _ _ p 0 _ _ _ (decide_eq_true (by assumption)) hp rfl rfl rfl _ _ _ _ _ _ _ _ h w
  · obtain ⟨q, hq, h⟩ := Option.bind_eq_some_iff.1 h
    cases hd : decide (q < 0)
    · exact bounds_span_equal.meet k _ _ _ _ _ _ _ _ _ _ _ _ _ _ _ _ p q _ _ _ (decide_eq_false (by assumption)) hp hd hq rfl rfl rfl _ _ _ _ _ _ _ _ (by rw [hd] at h; exact h) w
    · exact bounds_span_equal.most k _ _ _ _ _ _ _ _ _ _ _ _ _ _ _ _ p q _ _ _ (decide_eq_false (by assumption)) hp hd hq rfl rfl rfl _ _ _ _ _ _ _ _ (by rw [hd] at h; exact h) w
end Go.Proofs.YteflfnjljjianaaGreatDoor.Qx
namespace Go.Proofs
open Go.Shelf
def Tryz.sortK_ren : Go.Shelf.Ren := ⟨fun | 6 => 118 | 15 => 154 | 14 => 153 | 28 => 179 | 29 => 180 | 20 => 171 | 21 => 172 | 22 => 173 | 23 => 174 | 24 => 175 | 25 => 176 | 26 => 177 | 27 => 178 | 46 => 193 | 47 => 194 | 48 => 195 | 49 => 196 | 50 => 197 | 57 => 202 | n => n, fun | 22 => 28 | 24 => 35 | 25 => 73 | 3 => 3 | 39 => 153 | 0 => 0 | 53 => 206 | 55 => 133 | 4 => 4 | 46 => 214 | 45 => 213 | 50 => 218 | 5 => 5 | 9 => 9 | 66 => 226 | 70 => 230 | 76 => 234 | 77 => 235 | n => n, fun | n => n⟩
theorem Tryz.sortK : Go.Proofs.SlLaysF0.n6 Tryz.prog Tryz.sortK_ren := {
  mixed := by kernel_rfl
  f6 := ⟨Tryz.f118.name, by decide, Tryz.func118.trans (congrArg some (by kernel_rfl))⟩
  f14 := ⟨Tryz.f153.name, by decide, Tryz.func153.trans (congrArg some (by kernel_rfl))⟩
  f15 := Tryz.func154.trans (congrArg some (by kernel_rfl))
  f20 := ⟨Tryz.f171.name, by decide, Tryz.func171.trans (congrArg some (by kernel_rfl))⟩
  f21 := ⟨Tryz.f172.name, by decide, Tryz.func172.trans (congrArg some (by kernel_rfl))⟩
  f22 := ⟨Tryz.f173.name, by decide, Tryz.func173.trans (congrArg some (by kernel_rfl))⟩
  f23 := ⟨Tryz.f174.name, by decide, Tryz.func174.trans (congrArg some (by kernel_rfl))⟩
  f24 := ⟨Tryz.f175.name, by decide, Tryz.func175.trans (congrArg some (by kernel_rfl))⟩
  f25 := ⟨Tryz.f176.name, by decide, Tryz.func176.trans (congrArg some (by kernel_rfl))⟩
  f26 := ⟨Tryz.f177.name, by decide, Tryz.func177.trans (congrArg some (by kernel_rfl))⟩
  f27 := ⟨Tryz.f178.name, by decide, Tryz.func178.trans (congrArg some (by kernel_rfl))⟩
  f28 := Tryz.func179.trans (congrArg some (by kernel_rfl))
  f29 := Tryz.func180.trans (congrArg some (by kernel_rfl))
  f46 := ⟨Tryz.f193.name, by decide, Tryz.func193.trans (congrArg some (by kernel_rfl))⟩
  f47 := Tryz.func194.trans (congrArg some (by kernel_rfl))
  f48 := Tryz.func195.trans (congrArg some (by kernel_rfl))
  f49 := ⟨Tryz.f196.name, by decide, Tryz.func196.trans (congrArg some (by kernel_rfl))⟩
  f50 := ⟨Tryz.f197.name, by decide, Tryz.func197.trans (congrArg some (by kernel_rfl))⟩
  f57 := ⟨Tryz.f202.name, by decide, Tryz.func202.trans (congrArg some (by kernel_rfl))⟩
  t0 := Tryz.underlying0
  a0 := Tryz.isAgg0
  z0 := Tryz.sizeOf0
  v0 := Tryz.zeroValue0
  t3 := Tryz.underlying3
  a3 := Tryz.isAgg3
  z3 := Tryz.sizeOf3
  v3 := Tryz.zeroValue3
  t4 := Tryz.underlying4
  a4 := Tryz.isAgg4
  z4 := Tryz.sizeOf4
  v4 := Tryz.zeroValue4
  t5 := Tryz.underlying5
  a5 := Tryz.isAgg5
  z5 := Tryz.sizeOf5
  v5 := Tryz.zeroValue5
  t9 := Tryz.underlying9
  a9 := Tryz.isAgg9
  z9 := Tryz.sizeOf9
  v9 := Tryz.zeroValue9
  t22 := Tryz.underlying28
  a22 := Tryz.isAgg28
  z22 := Tryz.sizeOf28
  v22 := Tryz.zeroValue28
  t25 := Tryz.underlying73
  a25 := Tryz.isAgg73
  z25 := Tryz.sizeOf73
  v25 := Tryz.zeroValue73
  t39 := Tryz.underlying153
  a39 := Tryz.isAgg153
  z39 := Tryz.sizeOf153
  v39 := Tryz.zeroValue153
  t45 := Tryz.underlying213
  a45 := Tryz.isAgg213
  z45 := Tryz.sizeOf213
  v45 := Tryz.zeroValue213
  t46 := Tryz.underlying214
  a46 := Tryz.isAgg214
  z46 := Tryz.sizeOf214
  v46 := Tryz.zeroValue214
  t50 := Tryz.underlying218
  a50 := Tryz.isAgg218
  z50 := Tryz.sizeOf218
  v50 := Tryz.zeroValue218
  t53 := Tryz.underlying206
  a53 := Tryz.isAgg206
  z53 := Tryz.sizeOf206
  v53 := Tryz.zeroValue206
  t55 := Tryz.underlying133
  a55 := Tryz.isAgg133
  z55 := Tryz.sizeOf133
  v55 := Tryz.zeroValue133
  t66 := Tryz.underlying226
  a66 := Tryz.isAgg226
  z66 := Tryz.sizeOf226
  v66 := Tryz.zeroValue226
  t70 := Tryz.underlying230
  a70 := Tryz.isAgg230
  z70 := Tryz.sizeOf230
  v70 := Tryz.zeroValue230
  t76 := Tryz.underlying234
  a76 := Tryz.isAgg234
  z76 := Tryz.sizeOf234
  v76 := Tryz.zeroValue234
  t77 := Tryz.underlying235
  a77 := Tryz.isAgg235
  z77 := Tryz.sizeOf235
  v77 := Tryz.zeroValue235 }
end Go.Proofs
