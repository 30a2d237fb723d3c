/- Part of a proof of PartitionBoundsCardSaid: functions of the given program and what they compute, each checked by the kernel. -/
import Derived.Test.YteflfnjljjianaaGreatDoorPB02
import Derived.Test.YteflfnjljjianaaGreatDoorPB03
import Derived.Test.YteflfnjljjianaaGreatDoorPB04
import Derived.Test.YteflfnjljjianaaGreatDoorPB07
import Derived.Test.YteflfnjljjianaaGreatDoorPB01
import Derived.Test.YteflfnjljjianaaGreatDoorPB06
import Derived.Deep.RegionHeld3
import Derived.WalkKit
import Derived.Deep.RegionWith
namespace Go.Proofs.YteflfnjljjianaaGreatDoor.Qx
open Go.RowKit Go.Proofs.YteflfnjljjianaaGreatDoorW.PrintWords Go.Proofs.YteflfnjljjianaaGreatDoorW.PrintLast Go.Proofs.YteflfnjljjianaaGreatDoorW.PrintMore
attribute [local go_sem] max2_int min2_int max_two min_two
set_option linter.unusedVariables false
set_option linter.unusedSimpArgs false
def partition_spec_most.f (a0_0 : Int) (a0_1 : Int) (a0_2 : Int) (a1_0 : Int) (a1_1 : Int) (a1_2 : ByteArray) : Option (Int × Int × ByteArray) := if a1_0 = 2 then ((partition_spec_floor.f a0_0 a0_1 a0_2 a1_1).bind fun t104 => ((partition_num.f (mn (wrap64 ((wrap64 (t104 + a0_2)) - 1)) 4000000000000000000)).bind fun bt105 => (some (bt105.1, bt105.2.1, bt105.2.2)))) else (if (a1_2.size : Int) < a0_2 then (some (a1_0, a1_1, a1_2)) else ((strings_Repeat.f (⟨#[126]⟩ : ByteArray) (wrap64 (40 - (a1_2.size : Int)))).bind fun t108 => (if a1_2.size + t108.size ≤ 9223372036854775807 then ((partition_str.f (a1_2 ++ t108)).bind fun bt109 => (some (bt109.1, bt109.2.1, bt109.2.2))) else (none))))
set_option maxRecDepth 100000 in
set_option maxHeartbeats 4000000 in
theorem partition_spec_most.calls (a0_0 : Int) (a0_1 : Int) (a0_2 : Int) (a1_0 : Int) (a1_1 : Int) (a1_2 : ByteArray) (r1 : Int) (r2 : Int) (r3 : ByteArray) (w : World) (h : partition_spec_most.f a0_0 a0_1 a0_2 a1_0 a1_1 a1_2 = some (r1, r2, r3)) :
    Calls Tryz.prog 84 #[.agg #[.int .i64 a0_0, .int .i64 a0_1, .int .i64 a0_2], .agg #[.int .i64 a1_0, .int .i64 a1_1, .string a1_2]] w fun e w' => e = .returned (.agg #[.int .i64 r1, .int .i64 r2, .string r3]) ∧ Below w.heap.size w w' := by
  have hu106 := Tryz.underlying106
  have hu35 := Tryz.underlying35
  unfold partition_spec_most.f at h
  by_cases c1 : a1_0 = 2
  · rw [if_pos c1] at h
    obtain ⟨t, ht, h⟩ := Option.bind_eq_some_iff.1 h
    obtain ⟨rfl, rfl, rfl⟩ : 2 = r1 ∧ mn (wrap64 (wrap64 (t + a0_2) - 1)) 4000000000000000000 = r2 ∧ (⟨#[]⟩ : ByteArray) = r3 := by
      have h := Option.some.inj h
      exact ⟨congrArg (·.1) h, congrArg (·.2.1) h, congrArg (·.2.2) h⟩
    have k1 : (a1_0 == 2) = true := beq_iff_eq.2 c1
    have HT := Lib.hid ht
    clear h ht c1
    have hmn : (wrap64 (wrap64 (t + a0_2) - 1) ≤ 4000000000000000000 ∧ mn (wrap64 (wrap64 (t + a0_2) - 1)) 4000000000000000000 = wrap64 (wrap64 (t + a0_2) - 1)) ∨ (4000000000000000000 < wrap64 (wrap64 (t + a0_2) - 1) ∧ mn (wrap64 (wrap64 (t + a0_2) - 1)) 4000000000000000000 = 4000000000000000000) := by
      by_cases hx : 4000000000000000000 < wrap64 (wrap64 (t + a0_2) - 1)
      · exact .inr ⟨hx, by unfold mn; omega⟩
      · exact .inl ⟨by omega, by unfold mn; omega⟩
    rcases hmn with ⟨hm, hmn⟩ | ⟨hm, hmn⟩
    all_goals
      rw [hmn]
      clear hmn
      go_enter Tryz.func84, Tryz.ntmps84
      go_wp2_with fail
      have E0 := blk_alloc (blk_alloc (heap_alloc_new w (.cells #[.int .i64 a0_0, .int .i64 a0_1, .int .i64 a0_2] 106)) (.cells #[.int .i64 a1_0, .int .i64 a1_1, .string a1_2] 35)) (.cells #[.int .i64 0, .int .i64 0, .string ⟨#[]⟩] 35)
      have E1 := blk_alloc (heap_alloc_new (w.alloc (.cells #[.int .i64 a0_0, .int .i64 a0_1, .int .i64 a0_2] 106)) (.cells #[.int .i64 a1_0, .int .i64 a1_1, .string a1_2] 35)) (.cells #[.int .i64 0, .int .i64 0, .string ⟨#[]⟩] 35)
      have E2 := heap_alloc_new ((w.alloc (.cells #[.int .i64 a0_0, .int .i64 a0_1, .int .i64 a0_2] 106)).alloc (.cells #[.int .i64 a1_0, .int .i64 a1_1, .string a1_2] 35)) (.cells #[.int .i64 0, .int .i64 0, .string ⟨#[]⟩] 35)
      have hB := below_alloc (below_alloc (below_alloc (Below.refl w.heap.size w) (.cells #[.int .i64 a0_0, .int .i64 a0_1, .int .i64 a0_2] 106)) (.cells #[.int .i64 a1_0, .int .i64 a1_1, .string a1_2] 35)) (.cells #[.int .i64 0, .int .i64 0, .string ⟨#[]⟩] 35)
      simp only [World.size_alloc] at E1 E2
      generalize ((w.alloc (.cells #[.int .i64 a0_0, .int .i64 a0_1, .int .i64 a0_2] 106)).alloc (.cells #[.int .i64 a1_0, .int .i64 a1_1, .string a1_2] 35)).alloc (.cells #[.int .i64 0, .int .i64 0, .string ⟨#[]⟩] 35) = W at *
      have k00 := cell_regrown ((blk_cell E0 0).trans rfl)
      have k01 := cell_regrown ((blk_cell E0 1).trans rfl)
      have k02 := cell_regrown ((blk_cell E0 2).trans rfl)
      have k10 := cell_regrown ((blk_cell E1 0).trans rfl)
      have k11 := cell_regrown ((blk_cell E1 1).trans rfl)
      have k12 := cell_regrown ((blk_cell E1 2).trans rfl)
      have HB := Lib.hid hB
      have H2 := Lib.hid E2
      clear E0 E1 E2 hB
      refine wp_region_quiet_tail_below 10 (by kernel_rfl) (by kernel_rfl) ?_
      simp only [List.take_succ_cons, List.take_zero, List.drop_succ_cons, List.drop_zero]
      repeat (first | go_big_quiet_step (first | exact Calls.regrown_of (partition_spec_floor.calls a0_0 a0_1 a0_2 a1_1 t _ HT.out) | exact Calls.regrown_of (partition_num.calls _ _ _ _ _ rfl)) | quiet_step (first | exact Calls.regrown_of (partition_spec_floor.calls a0_0 a0_1 a0_2 a1_1 t _ HT.out) | exact Calls.regrown_of (partition_num.calls _ _ _ _ _ rfl)))
      refine wpQuiet_nil ?_
      intro _ hw'
      obtain ⟨⟨dq, osq⟩, hw''⟩ := hw'
      subst hw''
      have hb2 := below_regrown W dq osq
      have E2 := blk_below H2.out hb2
      replace HB := Lib.hid (below_step HB.out hb2)
      clear H2 hb2 k00 k01 k02 k10 k11 k12
      generalize Go.Sort.grow (redrawn W dq) osq = W2 at *
      have z0 : W2.cell? ⟨w.heap.size + 1 + 1, 0, none⟩ = some (.int .i64 0) := (blk_cell E2 0).trans rfl
      have z1 : W2.cell? ⟨w.heap.size + 1 + 1, 1, none⟩ = some (.int .i64 0) := (blk_cell E2 1).trans rfl
      have z2 : W2.cell? ⟨w.heap.size + 1 + 1, 2, none⟩ = some (.string ⟨#[]⟩) := (blk_cell E2 2).trans rfl
      have f0 := blk_frozen E2 0
      have f1 := blk_frozen E2 1
      have f2 := blk_frozen E2 2
      have H2 := Lib.hid E2
      clear E2
      go_wp2
      refine bodyPost_ret (results_cell_row rfl _ _ (w.heap.size + 1 + 1) 35 #[.int .i64 2, .int .i64 _, .string ⟨#[]⟩] (0, 0) _ rfl (by refine blk_put (blk_put (blk_put H2.out 0 _ rfl) 1 _ rfl) 2 _ rfl) hu35 rfl (by kernel_rfl)) rfl ⟨rfl, ?_⟩
      exact below_set (below_set (below_set HB.out (by show w.heap.size ≤ w.heap.size + 1 + 1; omega)) (by show w.heap.size ≤ w.heap.size + 1 + 1; omega)) (by show w.heap.size ≤ w.heap.size + 1 + 1; omega)
  · rw [if_neg c1] at h
    have k1 : (a1_0 == 2) = false := beq_eq_false_iff_ne.2 c1
    clear c1
    by_cases c2 : (a1_2.size : Int) < a0_2
    · rw [if_pos c2] at h
      obtain ⟨rfl, rfl, rfl⟩ : a1_0 = r1 ∧ a1_1 = r2 ∧ a1_2 = r3 := by
        have h := Option.some.inj h
        exact ⟨congrArg (·.1) h, congrArg (·.2.1) h, congrArg (·.2.2) h⟩
      have k2 : decide ((a1_2.size : Int) < a0_2) = true := decide_eq_true c2
      clear h c2
      go_enter Tryz.func84, Tryz.ntmps84
      go_wp2
      have E2 := heap_alloc_new ((w.alloc (.cells #[.int .i64 a0_0, .int .i64 a0_1, .int .i64 a0_2] 106)).alloc (.cells #[.int .i64 a1_0, .int .i64 a1_1, .string a1_2] 35)) (.cells #[.int .i64 a1_0, .int .i64 a1_1, .string a1_2] 35)
      simp only [World.size_alloc] at E2
      exact bodyPost_ret (results_cell_row rfl _ _ (w.heap.size + 1 + 1) 35 #[.int .i64 a1_0, .int .i64 a1_1, .string a1_2] (0, 0) _ rfl E2 hu35 rfl (by kernel_rfl)) rfl ⟨rfl, below_alloc (below_alloc (below_alloc (Below.refl _ _) _) _) _⟩
    rw [if_neg c2] at h
    have k2 : decide ((a1_2.size : Int) < a0_2) = false := decide_eq_false c2
    clear c2
    obtain ⟨t, ht, h⟩ := Option.bind_eq_some_iff.1 h
    by_cases c3 : a1_2.size + t.size ≤ 9223372036854775807
    case neg => rw [if_neg c3] at h; cases h
    rw [if_pos c3] at h
    obtain ⟨rfl, rfl, rfl⟩ : 3 = r1 ∧ 0 = r2 ∧ a1_2 ++ t = r3 := by
      have h := Option.some.inj h
      exact ⟨congrArg (·.1) h, congrArg (·.2.1) h, congrArg (·.2.2) h⟩
    have ew : wrap64 (40 - (a1_2.size : Int)) = 40 - (a1_2.size : Int) := by unfold wrap64; omega
    rw [ew] at ht
    have HT := Lib.hid ht
    clear h ht ew
    go_enter Tryz.func84, Tryz.ntmps84
    go_wp2_with fail
    have E0 := blk_alloc (blk_alloc (heap_alloc_new w (.cells #[.int .i64 a0_0, .int .i64 a0_1, .int .i64 a0_2] 106)) (.cells #[.int .i64 a1_0, .int .i64 a1_1, .string a1_2] 35)) (.cells #[.int .i64 0, .int .i64 0, .string ⟨#[]⟩] 35)
    have E1 := blk_alloc (heap_alloc_new (w.alloc (.cells #[.int .i64 a0_0, .int .i64 a0_1, .int .i64 a0_2] 106)) (.cells #[.int .i64 a1_0, .int .i64 a1_1, .string a1_2] 35)) (.cells #[.int .i64 0, .int .i64 0, .string ⟨#[]⟩] 35)
    have E2 := heap_alloc_new ((w.alloc (.cells #[.int .i64 a0_0, .int .i64 a0_1, .int .i64 a0_2] 106)).alloc (.cells #[.int .i64 a1_0, .int .i64 a1_1, .string a1_2] 35)) (.cells #[.int .i64 0, .int .i64 0, .string ⟨#[]⟩] 35)
    have hB := below_alloc (below_alloc (below_alloc (Below.refl w.heap.size w) (.cells #[.int .i64 a0_0, .int .i64 a0_1, .int .i64 a0_2] 106)) (.cells #[.int .i64 a1_0, .int .i64 a1_1, .string a1_2] 35)) (.cells #[.int .i64 0, .int .i64 0, .string ⟨#[]⟩] 35)
    simp only [World.size_alloc] at E1 E2
    generalize ((w.alloc (.cells #[.int .i64 a0_0, .int .i64 a0_1, .int .i64 a0_2] 106)).alloc (.cells #[.int .i64 a1_0, .int .i64 a1_1, .string a1_2] 35)).alloc (.cells #[.int .i64 0, .int .i64 0, .string ⟨#[]⟩] 35) = W at *
    have k00 := cell_regrown ((blk_cell E0 0).trans rfl)
    have k01 := cell_regrown ((blk_cell E0 1).trans rfl)
    have k02 := cell_regrown ((blk_cell E0 2).trans rfl)
    have k10 := cell_regrown ((blk_cell E1 0).trans rfl)
    have k11 := cell_regrown ((blk_cell E1 1).trans rfl)
    have k12 := cell_regrown ((blk_cell E1 2).trans rfl)
    have HB := Lib.hid hB
    have H2 := Lib.hid E2
    clear E0 E1 E2 hB
    refine wp_region_quiet_tail_below 9 (by kernel_rfl) (by kernel_rfl) ?_
    simp only [List.take_succ_cons, List.take_zero, List.drop_succ_cons, List.drop_zero]
    repeat (first | go_big_quiet_step (first | exact Calls.regrown_of (strings_Repeat.calls ⟨#[126]⟩ _ t _ HT.out) | exact Calls.regrown_of (partition_str.calls _ _ _ _ _ rfl)) | quiet_step (first | exact Calls.regrown_of (strings_Repeat.calls ⟨#[126]⟩ _ t _ HT.out) | exact Calls.regrown_of (partition_str.calls _ _ _ _ _ rfl)))
    refine wpQuiet_nil ?_
    intro _ hw'
    obtain ⟨⟨dq, osq⟩, hw''⟩ := hw'
    subst hw''
    have hb2 := below_regrown W dq osq
    have E2 := blk_below H2.out hb2
    replace HB := Lib.hid (below_step HB.out hb2)
    clear H2 hb2 k00 k01 k02 k10 k11 k12
    generalize Go.Sort.grow (redrawn W dq) osq = W2 at *
    have z0 : W2.cell? ⟨w.heap.size + 1 + 1, 0, none⟩ = some (.int .i64 0) := (blk_cell E2 0).trans rfl
    have z1 : W2.cell? ⟨w.heap.size + 1 + 1, 1, none⟩ = some (.int .i64 0) := (blk_cell E2 1).trans rfl
    have z2 : W2.cell? ⟨w.heap.size + 1 + 1, 2, none⟩ = some (.string ⟨#[]⟩) := (blk_cell E2 2).trans rfl
    have f0 := blk_frozen E2 0
    have f1 := blk_frozen E2 1
    have f2 := blk_frozen E2 2
    have H2 := Lib.hid E2
    clear E2
    go_wp2
    refine bodyPost_ret (results_cell_row rfl _ _ (w.heap.size + 1 + 1) 35 #[.int .i64 3, .int .i64 0, .string (a1_2 ++ t)] (0, 0) _ rfl (by refine blk_put (blk_put (blk_put H2.out 0 _ rfl) 1 _ rfl) 2 _ rfl) hu35 rfl (by kernel_rfl)) rfl ⟨rfl, ?_⟩
    exact below_set (below_set (below_set HB.out (by show w.heap.size ≤ w.heap.size + 1 + 1; omega)) (by show w.heap.size ≤ w.heap.size + 1 + 1; omega)) (by show w.heap.size ≤ w.heap.size + 1 + 1; omega)
end Go.Proofs.YteflfnjljjianaaGreatDoor.Qx
namespace Go.Proofs.YteflfnjljjianaaGreatDoor.Qx
open Go.RowKit Go.Proofs.YteflfnjljjianaaGreatDoorW.PrintWords Go.Proofs.YteflfnjljjianaaGreatDoorW.PrintLast Go.Proofs.YteflfnjljjianaaGreatDoorW.PrintMore
attribute [local go_sem] max2_int min2_int max_two min_two
set_option linter.unusedVariables false
set_option linter.unusedSimpArgs false
def partition_open.j0 : Nat → Int → Int → Bool → Int → Bool → Int → Int → ByteArray → Int → Int → ByteArray → Int → Option (Int × Bool × Int × Int × ByteArray × Int × Int × ByteArray × Int)
  | 0, _, _, _, _, _, _, _, _, _, _, _, _ => none
  | k + 1, x102000, x102001, x102002, x104000, x104001, x104002, x104003, x104004, x104005, x104006, x104007, x104008 => if x102000 = 1 then (some (x104000, x104001, 1, 0, (⟨#[]⟩ : ByteArray), 1, 1, (⟨#[]⟩ : ByteArray), x104008)) else (if x102000 = 2 then ((partition_num.f (-4000000000000000000)).bind fun bt104 => ((partition_num.f 4000000000000000000).bind fun bt107 => (some (x104000, x104001, bt104.1, bt104.2.1, bt104.2.2, bt107.1, bt107.2.1, bt107.2.2, x104008)))) else ((partition_str.f (⟨#[]⟩ : ByteArray)).bind fun bt110 => ((strings_Repeat.f (⟨#[126]⟩ : ByteArray) 40).bind fun t113 => ((partition_str.f t113).bind fun bt114 => (some (x104000, x104001, bt110.1, bt110.2.1, bt110.2.2, bt114.1, bt114.2.1, bt114.2.2, x104008))))))
def partition_open.f (k : Nat) (a0_0 : Int) (a0_1 : Int) (a0_2 : Bool) : Option (Int × Bool × Int × Int × ByteArray × Int × Int × ByteArray × Int) := if a0_2 = true then (partition_open.j0 k a0_0 a0_1 a0_2 1 true 0 0 (⟨#[]⟩ : ByteArray) 0 0 (⟨#[]⟩ : ByteArray) 0) else (partition_open.j0 k a0_0 a0_1 a0_2 0 true 0 0 (⟨#[]⟩ : ByteArray) 0 0 (⟨#[]⟩ : ByteArray) 0)
set_option maxRecDepth 100000 in
set_option maxHeartbeats 4000000 in
theorem partition_open.calls (k : Nat) (a0_0 : Int) (a0_1 : Int) (a0_2 : Bool) (r1 : Int) (r2 : Bool) (r3 : Int) (r4 : Int) (r5 : ByteArray) (r6 : Int) (r7 : Int) (r8 : ByteArray) (r9 : Int) (w : World) (h : partition_open.f k a0_0 a0_1 a0_2 = some (r1, r2, r3, r4, r5, r6, r7, r8, r9)) :
    Calls Tryz.prog 91 #[.agg #[.int .i64 a0_0, .int .i64 a0_1, .bool a0_2]] w fun e w' => e = .returned (.agg #[.int .i64 r1, .bool r2, .int .i64 r3, .int .i64 r4, .string r5, .int .i64 r6, .int .i64 r7, .string r8, .int .i64 r9]) ∧ Below w.heap.size w w' := by
  have hu63 := Tryz.underlying63
  have hu82 := Tryz.underlying82
  have hu35 := Tryz.underlying35
  obtain ⟨k, rfl⟩ : ∃ j, k = j + 1 := by
    cases k with
    | zero => cases a0_2 <;> simp [partition_open.f, partition_open.j0] at h
    | succ j => exact ⟨j, rfl⟩
  by_cases c1 : a0_0 = 1
  · subst c1
    go_enter Tryz.func91, Tryz.ntmps91
    cases a0_2
    all_goals
      simp only [partition_open.f, partition_open.j0, Bool.false_eq_true, if_false, if_true, Option.some.injEq, Prod.mk.injEq] at h
      obtain ⟨rfl, rfl, rfl, rfl, rfl, rfl, rfl, rfl, rfl⟩ := h
      go_wp2
      refine bodyPost_ret (results_cell_row rfl _ _ (w.heap.size + 1) 82 _ (0, 0) _ rfl (by rw [← World.size_alloc w]; exact blk_alloc (heap_alloc_new _ _) _) hu82 rfl (by kernel_rfl)) rfl ⟨rfl, ?_⟩
      exact below_alloc (below_alloc (below_alloc (Below.refl w.heap.size w) _) _) _
  obtain ⟨W, hW⟩ : ∃ W, W = ((w.alloc (.cells #[.int .i64 a0_0, .int .i64 a0_1, .bool a0_2] 63)).alloc (.cells #[.int .i64 0, .bool false, .int .i64 0, .int .i64 0, .string ⟨#[]⟩, .int .i64 0, .int .i64 0, .string ⟨#[]⟩, .int .i64 0] 82)).alloc (.cells #[.int .i64 (if a0_2 = true then 1 else 0), .bool true, .int .i64 0, .int .i64 0, .string ⟨#[]⟩, .int .i64 0, .int .i64 0, .string ⟨#[]⟩, .int .i64 0] 82) := ⟨_, rfl⟩
  have E2 : W.heap[w.heap.size + 1]? = some (.cells #[.int .i64 0, .bool false, .int .i64 0, .int .i64 0, .string ⟨#[]⟩, .int .i64 0, .int .i64 0, .string ⟨#[]⟩, .int .i64 0] 82) := by
    rw [hW, ← World.size_alloc w]; exact blk_alloc (heap_alloc_new _ _) _
  have E3 : W.heap[w.heap.size + 1 + 1]? = some (.cells #[.int .i64 (if a0_2 = true then 1 else 0), .bool true, .int .i64 0, .int .i64 0, .string ⟨#[]⟩, .int .i64 0, .int .i64 0, .string ⟨#[]⟩, .int .i64 0] 82) := by
    rw [hW, ← World.size_alloc w, ← World.size_alloc (w.alloc _)]; exact heap_alloc_new _ _
  have HB : Below w.heap.size w W := by
    rw [hW]; exact below_alloc (below_alloc (below_alloc (Below.refl w.heap.size w) _) _) _
  by_cases c2 : a0_0 = 2
  · subst c2
    cases a0_2
    all_goals
      simp only [partition_open.f, partition_open.j0, Bool.false_eq_true, if_false, if_true, Option.bind_eq_some_iff, Option.some.injEq, Prod.mk.injEq, show ¬ ((2 : Int) = 1) from by decide] at h
      simp only [Bool.false_eq_true, if_false, if_true] at E2 E3 hW
      obtain ⟨⟨l0, l1, l2⟩, hl, ⟨u0, u1, u2⟩, hu, rfl, rfl, rfl, rfl, rfl, rfl, rfl, rfl, rfl⟩ := h
      go_enter Tryz.func91, Tryz.ntmps91
      go_wp2_with fail
      rw [← hW]
      clear hW
      replace HB := Lib.hid HB
      replace E2 := Lib.hid E2
      replace E3 := Lib.hid E3
      refine (partition_num.calls _ _ _ _ _ hl).mono ?_
      rintro e w1 ⟨rfl, hb⟩
      replace HB := Lib.hid (below_step HB.out hb)
      replace E2 := Lib.hid (blk_below E2.out hb)
      replace E3 := Lib.hid (blk_below E3.out hb)
      clear hb
      go_wp2_with fail
      refine (partition_num.calls _ _ _ _ _ hu).mono ?_
      rintro e w2 ⟨rfl, hb⟩
      replace HB := Lib.hid (below_step HB.out hb)
      replace E2 := Lib.hid (blk_below E2.out hb)
      replace E3 := Lib.hid (blk_below E3.out hb)
      clear hb
      have m0 := blk_cell E3.out 0
      have n0 := blk_cell E2.out 0
      have f0 := blk_frozen E2.out 0
      have g0 := blk_frozen E3.out 0
      have m1 := blk_cell E3.out 1
      have n1 := blk_cell E2.out 1
      have f1 := blk_frozen E2.out 1
      have g1 := blk_frozen E3.out 1
      have m2 := blk_cell E3.out 2
      have n2 := blk_cell E2.out 2
      have f2 := blk_frozen E2.out 2
      have g2 := blk_frozen E3.out 2
      have m3 := blk_cell E3.out 3
      have n3 := blk_cell E2.out 3
      have f3 := blk_frozen E2.out 3
      have g3 := blk_frozen E3.out 3
      have m4 := blk_cell E3.out 4
      have n4 := blk_cell E2.out 4
      have f4 := blk_frozen E2.out 4
      have g4 := blk_frozen E3.out 4
      have m5 := blk_cell E3.out 5
      have n5 := blk_cell E2.out 5
      have f5 := blk_frozen E2.out 5
      have g5 := blk_frozen E3.out 5
      have m6 := blk_cell E3.out 6
      have n6 := blk_cell E2.out 6
      have f6 := blk_frozen E2.out 6
      have g6 := blk_frozen E3.out 6
      have m7 := blk_cell E3.out 7
      have n7 := blk_cell E2.out 7
      have f7 := blk_frozen E2.out 7
      have g7 := blk_frozen E3.out 7
      have m8 := blk_cell E3.out 8
      have n8 := blk_cell E2.out 8
      have f8 := blk_frozen E2.out 8
      have g8 := blk_frozen E3.out 8
      have hne : w.heap.size + 1 ≠ w.heap.size + 1 + 1 := by omega
      have hne2 : w.heap.size + 1 + 1 ≠ w.heap.size + 1 := by omega
      go_wp2_with fail
      refine bodyPost_ret (results_cell_row rfl _ _ (w.heap.size + 1) 82 #[_, .bool true, .int .i64 l0, .int .i64 l1, .string l2, .int .i64 u0, .int .i64 u1, .string u2, .int .i64 0] (0, 0) _ rfl (blk_put (blk_set (blk_set (blk_set (blk_set (blk_set (blk_set (blk_set (blk_set (blk_far (blk_far (blk_far (blk_far (blk_far (blk_far E2.out hne _) hne _) hne _) hne _) hne _) hne _) 0 _) 1 _) 2 _) 3 _) 4 _) 5 _) 6 _) 7 _) 8 _ rfl) hu82 rfl (by kernel_rfl)) rfl ⟨rfl, ?_⟩
      repeat (with_reducible first | refine below_set ?_ (by omega))
      exact HB.out
  · cases a0_2
    all_goals
      simp only [partition_open.f, partition_open.j0, c1, c2, Bool.false_eq_true, if_false, if_true, Option.bind_eq_some_iff, Option.some.injEq, Prod.mk.injEq] at h
      simp only [Bool.false_eq_true, if_false, if_true] at E2 E3 hW
      obtain ⟨⟨l0, l1, l2⟩, hl, t, ht, ⟨u0, u1, u2⟩, hu, rfl, rfl, rfl, rfl, rfl, rfl, rfl, rfl, rfl⟩ := h
      have c1' : decide (a0_0 = 1) = false := decide_eq_false c1
      have c2' : decide (a0_0 = 2) = false := decide_eq_false c2
      go_enter Tryz.func91, Tryz.ntmps91
      go_wp2_with fail
      rw [← hW]
      clear hW
      replace HB := Lib.hid HB
      replace E2 := Lib.hid E2
      replace E3 := Lib.hid E3
      refine (partition_str.calls _ _ _ _ _ hl).mono ?_
      rintro e w1 ⟨rfl, hb⟩
      replace HB := Lib.hid (below_step HB.out hb)
      replace E2 := Lib.hid (blk_below E2.out hb)
      replace E3 := Lib.hid (blk_below E3.out hb)
      clear hb
      go_wp2_with fail
      refine (strings_Repeat.calls _ _ _ _ ht).mono ?_
      rintro e w2 ⟨rfl, hb⟩
      replace HB := Lib.hid (below_step HB.out hb)
      replace E2 := Lib.hid (blk_below E2.out hb)
      replace E3 := Lib.hid (blk_below E3.out hb)
      clear hb
      go_wp2_with fail
      refine (partition_str.calls _ _ _ _ _ hu).mono ?_
      rintro e w3 ⟨rfl, hb⟩
      replace HB := Lib.hid (below_step HB.out hb)
      replace E2 := Lib.hid (blk_below E2.out hb)
      replace E3 := Lib.hid (blk_below E3.out hb)
      clear hb
      have m0 := blk_cell E3.out 0
      have n0 := blk_cell E2.out 0
      have f0 := blk_frozen E2.out 0
      have g0 := blk_frozen E3.out 0
      have m1 := blk_cell E3.out 1
      have n1 := blk_cell E2.out 1
      have f1 := blk_frozen E2.out 1
      have g1 := blk_frozen E3.out 1
      have m2 := blk_cell E3.out 2
      have n2 := blk_cell E2.out 2
      have f2 := blk_frozen E2.out 2
      have g2 := blk_frozen E3.out 2
      have m3 := blk_cell E3.out 3
      have n3 := blk_cell E2.out 3
      have f3 := blk_frozen E2.out 3
      have g3 := blk_frozen E3.out 3
      have m4 := blk_cell E3.out 4
      have n4 := blk_cell E2.out 4
      have f4 := blk_frozen E2.out 4
      have g4 := blk_frozen E3.out 4
      have m5 := blk_cell E3.out 5
      have n5 := blk_cell E2.out 5
      have f5 := blk_frozen E2.out 5
      have g5 := blk_frozen E3.out 5
      have m6 := blk_cell E3.out 6
      have n6 := blk_cell E2.out 6
      have f6 := blk_frozen E2.out 6
      have g6 := blk_frozen E3.out 6
      have m7 := blk_cell E3.out 7
      have n7 := blk_cell E2.out 7
      have f7 := blk_frozen E2.out 7
      have g7 := blk_frozen E3.out 7
      have m8 := blk_cell E3.out 8
      have n8 := blk_cell E2.out 8
      have f8 := blk_frozen E2.out 8
      have g8 := blk_frozen E3.out 8
      have hne : w.heap.size + 1 ≠ w.heap.size + 1 + 1 := by omega
      have hne2 : w.heap.size + 1 + 1 ≠ w.heap.size + 1 := by omega
      go_wp2_with fail
      refine bodyPost_ret (results_cell_row rfl _ _ (w.heap.size + 1) 82 #[_, .bool true, .int .i64 l0, .int .i64 l1, .string l2, .int .i64 u0, .int .i64 u1, .string u2, .int .i64 0] (0, 0) _ rfl (blk_put (blk_set (blk_set (blk_set (blk_set (blk_set (blk_set (blk_set (blk_set (blk_far (blk_far (blk_far (blk_far (blk_far (blk_far E2.out hne _) hne _) hne _) hne _) hne _) hne _) 0 _) 1 _) 2 _) 3 _) 4 _) 5 _) 6 _) 7 _) 8 _ rfl) hu82 rfl (by kernel_rfl)) rfl ⟨rfl, ?_⟩
      repeat (with_reducible first | refine below_set ?_ (by omega))
      exact HB.out
end Go.Proofs.YteflfnjljjianaaGreatDoor.Qx
namespace Go.Proofs.YteflfnjljjianaaGreatDoor.Qx
open Go.RowKit Go.Proofs.YteflfnjljjianaaGreatDoorW.PrintWords Go.Proofs.YteflfnjljjianaaGreatDoorW.PrintLast Go.Proofs.YteflfnjljjianaaGreatDoorW.PrintMore
attribute [local go_sem] max2_int min2_int max_two min_two
set_option linter.unusedVariables false
set_option linter.unusedSimpArgs false
def c82 (x : S82) : List Value := [.int .i64 x.f0, .bool x.f1, .int .i64 x.f2.f0, .int .i64 x.f2.f1, .string x.f2.f2, .int .i64 x.f3.f0, .int .i64 x.f3.f1, .string x.f3.f2, .int .i64 x.f4]
def RowL (w : World) (g : Nat) (L : List S82) : Prop := w.heap[g]? = some (.cells (L.flatMap c82).toArray 82 (0, 0))
theorem flat_set9 (x : S82) : ∀ (L : List S82) (i : Nat), i < L.length → (((((((((L.flatMap c82).set (i * 9) (.int .i64 x.f0)).set (i * 9 + 1) (.bool x.f1)).set (i * 9 + 2) (.int .i64 x.f2.f0)).set (i * 9 + 3) (.int .i64 x.f2.f1)).set (i * 9 + 4) (.string x.f2.f2)).set (i * 9 + 5) (.int .i64 x.f3.f0)).set (i * 9 + 6) (.int .i64 x.f3.f1)).set (i * 9 + 7) (.string x.f3.f2)).set (i * 9 + 8) (.int .i64 x.f4) = (L.set i x).flatMap c82
  | [], _, h => absurd h (by simp)
  | y :: L, 0, _ => by simp [c82]
  | y :: L, i + 1, h => by
    have ih := flat_set9 x L i (by simpa using h)
    simp only [List.flatMap_cons, List.set_cons_succ, ← ih]
    simp only [show (i + 1) * 9 = i * 9 + 9 by omega, show i * 9 + 9 + 1 = i * 9 + 1 + 9 by omega, show i * 9 + 9 + 2 = i * 9 + 2 + 9 by omega, show i * 9 + 9 + 3 = i * 9 + 3 + 9 by omega, show i * 9 + 9 + 4 = i * 9 + 4 + 9 by omega, show i * 9 + 9 + 5 = i * 9 + 5 + 9 by omega, show i * 9 + 9 + 6 = i * 9 + 6 + 9 by omega, show i * 9 + 9 + 7 = i * 9 + 7 + 9 by omega, show i * 9 + 9 + 8 = i * 9 + 8 + 9 by omega]
    simp only [c82, List.cons_append, List.nil_append, List.set_cons_succ]
theorem flat_len : ∀ (L : List S82), (L.flatMap c82).length = L.length * 9
  | [] => rfl
  | y :: L => by simp [flat_len L, c82]; omega
theorem flat_get (L : List S82) (i j : Nat) (hi : i < L.length) (hj : j < 9) : (L.flatMap c82)[i * 9 + j]? = (c82 (L.getD i z82))[j]? := by
  induction L generalizing i with
  | nil => exact absurd hi (by simp)
  | cons y L ih =>
    cases i with
    | zero =>
      rw [List.flatMap_cons, List.getElem?_append_left (by simp [c82]; omega)]
      simp
    | succ i =>
      have h1 := ih i (by simpa using hi)
      rw [List.flatMap_cons, List.getElem?_append_right (by simp [c82]; omega)]
      simpa [c82, show (i + 1) * 9 + j - 9 = i * 9 + j by omega] using h1
theorem RowL.set {w : World} {g : Nat} {L : List S82} (h : RowL w g L) (i : Nat) (hi : i < L.length) (x : S82) : RowL ((((((((((w).setCell ⟨g, i * 9, none⟩ (.int .i64 x.f0)).setCell ⟨g, i * 9 + 1, none⟩ (.bool x.f1)).setCell ⟨g, i * 9 + 2, none⟩ (.int .i64 x.f2.f0)).setCell ⟨g, i * 9 + 3, none⟩ (.int .i64 x.f2.f1)).setCell ⟨g, i * 9 + 4, none⟩ (.string x.f2.f2)).setCell ⟨g, i * 9 + 5, none⟩ (.int .i64 x.f3.f0)).setCell ⟨g, i * 9 + 6, none⟩ (.int .i64 x.f3.f1)).setCell ⟨g, i * 9 + 7, none⟩ (.string x.f3.f2)).setCell ⟨g, i * 9 + 8, none⟩ (.int .i64 x.f4)) g (L.set i x) := by
  have := blk_set (blk_set (blk_set (blk_set (blk_set (blk_set (blk_set (blk_set (blk_set h (i * 9) (.int .i64 x.f0)) (i * 9 + 1) (.bool x.f1)) (i * 9 + 2) (.int .i64 x.f2.f0)) (i * 9 + 3) (.int .i64 x.f2.f1)) (i * 9 + 4) (.string x.f2.f2)) (i * 9 + 5) (.int .i64 x.f3.f0)) (i * 9 + 6) (.int .i64 x.f3.f1)) (i * 9 + 7) (.string x.f3.f2)) (i * 9 + 8) (.int .i64 x.f4)
  unfold RowL
  rw [this, ← flat_set9 x L i hi]
  simp only [List.setIfInBounds_toArray]
theorem RowL.cell {w : World} {g : Nat} {L : List S82} (h : RowL w g L) (i j : Nat) (hi : i < L.length) (hj : j < 9) : w.cell? ⟨g, i * 9 + j, none⟩ = (c82 (L.getD i z82))[j]? := by
  have h1 := blk_cell h (i * 9 + j)
  rw [h1, ← flat_get L i j hi hj]
  simp
def LiesL (w : World) (A : Option Addr) (L : List S82) : Prop := L = [] ∨ ∃ g, A = some ⟨g, 0, none⟩ ∧ RowL w g L
theorem RowL.reads {w : World} {g : Nat} {L : List S82} (h : RowL w g L) (hl : L.length ≤ 9223372036854775807) : Kd.C k82 w (some ⟨g, 0, none⟩) L.length L := by
  refine ⟨rfl, hl, fun _ => ⟨⟨g, 0, none⟩, rfl, fun j p hp => ⟨c82 p, rfl, k82_mk w p, fun i u hu => ?_⟩⟩⟩
  have hj : j < L.length := (List.getElem?_eq_some_iff.1 hp).1
  have hi : i < 9 := (List.getElem?_eq_some_iff.1 hu).1
  have e : (⟨g, 0, none⟩ : Addr).add (j * k82.sz + i) = ⟨g, j * 9 + i, none⟩ := by
    show (⟨g, 0, none⟩ : Addr).add (j * 9 + i) = _
    simp [Addr.add]
    intros
    omega
  rw [e, h.cell j i hj hi, List.getD_eq_getElem?_getD, hp]
  exact hu
attribute [local go_sem high] eqA35
theorem RowL.far {w : World} {g i : Nat} {x : S82} {h : Nat} {t : TypeId} {cs : Array Value} (hc : w.heap[h]? = some (.cells cs t (0, 0))) (hne : h ≠ g) : ((((((((((w).setCell ⟨g, i * 9, none⟩ (.int .i64 x.f0)).setCell ⟨g, i * 9 + 1, none⟩ (.bool x.f1)).setCell ⟨g, i * 9 + 2, none⟩ (.int .i64 x.f2.f0)).setCell ⟨g, i * 9 + 3, none⟩ (.int .i64 x.f2.f1)).setCell ⟨g, i * 9 + 4, none⟩ (.string x.f2.f2)).setCell ⟨g, i * 9 + 5, none⟩ (.int .i64 x.f3.f0)).setCell ⟨g, i * 9 + 6, none⟩ (.int .i64 x.f3.f1)).setCell ⟨g, i * 9 + 7, none⟩ (.string x.f3.f2)).setCell ⟨g, i * 9 + 8, none⟩ (.int .i64 x.f4)).heap[h]? = some (.cells cs t (0, 0)) :=
  blk_far (blk_far (blk_far (blk_far (blk_far (blk_far (blk_far (blk_far (blk_far hc hne _) hne _) hne _) hne _) hne _) hne _) hne _) hne _) hne _
theorem RowL.below {w0 w : World} {g i : Nat} {x : S82} (h : Below w0.heap.size w0 w) (hg : w0.heap.size ≤ g) : Below w0.heap.size w0 ((((((((((w).setCell ⟨g, i * 9, none⟩ (.int .i64 x.f0)).setCell ⟨g, i * 9 + 1, none⟩ (.bool x.f1)).setCell ⟨g, i * 9 + 2, none⟩ (.int .i64 x.f2.f0)).setCell ⟨g, i * 9 + 3, none⟩ (.int .i64 x.f2.f1)).setCell ⟨g, i * 9 + 4, none⟩ (.string x.f2.f2)).setCell ⟨g, i * 9 + 5, none⟩ (.int .i64 x.f3.f0)).setCell ⟨g, i * 9 + 6, none⟩ (.int .i64 x.f3.f1)).setCell ⟨g, i * 9 + 7, none⟩ (.string x.f3.f2)).setCell ⟨g, i * 9 + 8, none⟩ (.int .i64 x.f4)) :=
  below_set (below_set (below_set (below_set (below_set (below_set (below_set (below_set (below_set h hg) hg) hg) hg) hg) hg) hg) hg) hg
theorem partition_kinds.at0 (w : World) : (Instr.index 98 (.agg #[.nilFunc, .nilFunc, .nilFunc, .nilFunc, .func (.func 75) #[] #[], .func (.func 76) #[] #[], .func (.func 77) #[] #[], .func (.func 76) #[] #[], .func (.func 78) #[] #[], .func (.func 79) #[] #[], .func (.func 80) #[] #[], .nilFunc, .func (.func 81) #[] #[], .func (.func 82) #[] #[], .func (.func 83) #[] #[], .func (.func 84) #[] #[]]) (.int .i64 0)).run Tryz.prog w = .ok (.agg #[.nilFunc, .nilFunc, .nilFunc, .nilFunc]) w := by kernel_rfl
theorem partition_kinds.fld0_3 (w : World) : (Instr.field 97 (.agg #[.nilFunc, .nilFunc, .nilFunc, .nilFunc]) 3).run Tryz.prog w = .ok (.nilFunc) w := by kernel_rfl
theorem neF94_nil (w : World) : (binOp BinOp.neq 94 .nilFunc .nilFunc).run Tryz.prog w = .ok (.bool false) w := by kernel_rfl
theorem neF94_76 (w : World) : (binOp BinOp.neq 94 (.func (.func 76) #[] #[]) .nilFunc).run Tryz.prog w = .ok (.bool true) w := by kernel_rfl
theorem neF94_84 (w : World) : (binOp BinOp.neq 94 (.func (.func 84) #[] #[]) .nilFunc).run Tryz.prog w = .ok (.bool true) w := by kernel_rfl
attribute [local go_sem high] neF94_nil neF94_76 neF94_84
def s82 (r : Int × Bool × Int × Int × ByteArray × Int × Int × ByteArray × Int) : S82 := ⟨r.1, r.2.1, ⟨r.2.2.1, r.2.2.2.1, r.2.2.2.2.1⟩, ⟨r.2.2.2.2.2.1, r.2.2.2.2.2.2.1, r.2.2.2.2.2.2.2.1⟩, r.2.2.2.2.2.2.2.2⟩
def openAll (k : Nat) : List S63 → Option (List S82)
  | [] => some []
  | t :: l => (partition_open.f k t.f0 t.f1 t.f2).bind fun r => (openAll k l).map (s82 r :: ·)
def lastOf (k : Nat) (a b n p0 p1 : Int) (p2 : ByteArray) : Option (Int × Int × ByteArray) := if a = 1 then partition_spec_same.f a b n p0 p1 p2 else partition_spec_most.f a b n p0 p1 p2
def partition_Bounds.f (k : Nat) (l0 : List S63) (a b n p0 p1 : Int) (p2 : ByteArray) : Option (List S82 × Int) :=
  if l0.length ≤ 1000 then (partition_Possible.f k l0 a b n p0 p1 p2).bind fun ok => if ok = true then (openAll k l0).bind fun L => (if a = 1 ∨ a = 3 then if (p0 == 0 && (p1 == 0 && p2.toList.isEmpty)) = true then some (L.set b.toNat ⟨1, false, z35, z35, 0⟩) else (lastOf k a b n p0 p1 p2).map fun q => L.set b.toNat ⟨0, true, ⟨p0, p1, p2⟩, ⟨q.1, q.2.1, q.2.2⟩, 0⟩ else some L).map fun L => (L, 0) else some ([], 320) else none
theorem openAll.length {k : Nat} : ∀ {l : List S63} {L : List S82}, openAll k l = some L → L.length = l.length
  | [], L, h => by obtain rfl := Option.some.inj h; rfl
  | t :: l, L, h => by
    obtain ⟨r, _, h⟩ := Option.bind_eq_some_iff.1 h
    obtain ⟨M, hM, rfl⟩ := Option.map_eq_some_iff.1 h
    simp [openAll.length hM]
theorem openAll.get {k : Nat} : ∀ {l : List S63} {L : List S82}, openAll k l = some L → ∀ j, j < l.length → ∃ r, partition_open.f k (rd_T63 l j).f0 (rd_T63 l j).f1 (rd_T63 l j).f2 = some r ∧ L.getD j z82 = s82 r
  | [], _, _ => fun j hj => absurd hj (by simp)
  | t :: l, L, h => by
    obtain ⟨r, hr, h⟩ := Option.bind_eq_some_iff.1 h
    obtain ⟨M, hM, rfl⟩ := Option.map_eq_some_iff.1 h
    intro j hj
    cases j with
    | zero => exact ⟨r, by simpa [rd_T63] using hr, rfl⟩
    | succ j =>
      obtain ⟨q, hq, e⟩ := openAll.get hM j (by simpa using hj)
      refine ⟨q, ?_, by simpa using e⟩
      have : rd_T63 (t :: l) ((j + 1 : Nat) : Int) = rd_T63 l (j : Int) := by simp [rd_T63]
      rw [this]
      exact hq
theorem made82 (m : Nat) : madeCells #[.int .i64 0, .bool false, .int .i64 0, .int .i64 0, .string ⟨#[]⟩, .int .i64 0, .int .i64 0, .string ⟨#[]⟩, .int .i64 0] (m * 9) = ((List.replicate m z82).flatMap c82).toArray := by
  apply Array.ext
  · rw [size_madeCells, List.size_toArray, flat_len, List.length_replicate]
  · intro i h1 h2
    have hi : i < m * 9 := by simpa [size_madeCells] using h1
    have h3 := flat_get (List.replicate m z82) (i / 9) (i % 9) (by simp; omega) (Nat.mod_lt _ (by decide))
    rw [show i / 9 * 9 + i % 9 = i by omega] at h3
    have h4 : (List.replicate m z82).getD (i / 9) z82 = z82 := by
      simp [List.getD_eq_getElem?_getD, List.getElem?_replicate]
      split <;> rfl
    rw [h4] at h3
    have h5 : i % 9 < 9 := Nat.mod_lt _ (by decide)
    have h6 : (((List.replicate m z82).flatMap c82).toArray)[i]? = (c82 z82)[i % 9]? := by simpa using h3
    rw [Array.getElem?_eq_getElem h2] at h6
    refine Option.some.inj (Eq.trans ?_ h6.symm)
    simp only [madeCells, Array.getElem_map, Array.getElem_range]
    generalize i % 9 = q at *
    match q, h5 with
    | 0, _ => rfl
    | 1, _ => rfl
    | 2, _ => rfl
    | 3, _ => rfl
    | 4, _ => rfl
    | 5, _ => rfl
    | 6, _ => rfl
    | 7, _ => rfl
    | 8, _ => rfl
theorem bytes82 (m : Nat) (hm : m ≤ 1000) : (Tryz.t82.bytes : Int) * (m : Int) ≤ 281474976710656 := by
  have hb : Tryz.t82.bytes = 88 := by kernel_rfl
  rw [hb]
  omega
theorem setNext {α : Type} (z x : α) (OL : List α) (m j : Nat) (hm : OL.length = m) (hj : j < m) (hx : OL.getD j z = x) : (OL.take j ++ List.replicate (m - j) z).set j x = OL.take (j + 1) ++ List.replicate (m - (j + 1)) z := by
  have h1 : (OL.take j).length = j := by simp; omega
  have e : OL.take (j + 1) = OL.take j ++ [x] := by
    rw [List.take_succ_eq_append_getElem (by omega), ← hx, List.getD_eq_getElem?_getD, List.getElem?_eq_getElem (by omega)]
    rfl
  obtain ⟨q, hq⟩ : ∃ q, m - j = q + 1 := ⟨m - j - 1, by omega⟩
  rw [List.set_append_right _ _ (by omega), h1, Nat.sub_self, hq, List.replicate_succ, List.set_cons_zero, show m - (j + 1) = q by omega, e, List.append_assoc]
  rfl
theorem make82 (w : World) (m : Nat) (hm : m ≤ 1000) : (Instr.makeSlice 53 (.int .i64 (m : Int)) (.int .i64 (m : Int))).run Tryz.prog w = .ok (.slice (some ⟨w.heap.size, 0, none⟩) m m) (w.alloc (.cells ((List.replicate m z82).flatMap c82).toArray 82)) := by
  have h := run_makeSlice (P := Tryz.prog) w 53 82 Tryz.t82 (.agg #[.int .i64 0, .bool false, .int .i64 0, .int .i64 0, .string ⟨#[]⟩, .int .i64 0, .int .i64 0, .string ⟨#[]⟩, .int .i64 0]) Tryz.underlying53 (by kernel_rfl) (by kernel_rfl) .i64 .i64 m m (by omega) (Int.le_refl _) (by show (m : Int).toNat * 9 ≤ _; omega) (bytes82 m hm) (by omega)
  rw [show (m : Int).toNat = m from rfl] at h
  rw [h, ← made82]
  rfl
theorem partition_Possible.valid {k : Nat} {l0 : List S63} {a b n p0 p1 : Int} {p2 : ByteArray} (h : partition_Possible.f k l0 a b n p0 p1 p2 = some true) : partition_Valid.f l0 a b n = some true := by
  obtain ⟨v, hv, h⟩ := Option.bind_eq_some_iff.1 h
  cases v with
  | true => exact hv
  | false => exact absurd h (by simp)
theorem partition_Possible.kind {k : Nat} {l0 : List S63} {a b n p0 p1 : Int} {p2 : ByteArray} (h : partition_Possible.f k l0 a b n p0 p1 p2 = some true) : a = 0 ∨ a = 1 ∨ a = 2 ∨ a = 3 := by
  by_cases ha : a = 0
  · exact .inl ha
  · have := partition_Valid.attr (partition_Possible.valid h) ha
    omega
set_option maxRecDepth 100000 in
set_option maxHeartbeats 4000000 in
theorem partition_Bounds.calls (k : Nat) (A0 : Option Addr) (c0 : Nat) (l0 : List S63) (a b n : Int) (p0 p1 : Int) (p2 : ByteArray) (L : List S82) (e0 : Int) (w : World) (hr : Kd.C k63 w A0 l0.length l0) (hc : l0.length ≤ c0) (hG : Laid w) (h : partition_Bounds.f k l0 a b n p0 p1 p2 = some (L, e0)) :
    Calls Tryz.prog 50 #[.slice A0 l0.length c0, .agg #[.int .i64 a, .int .i64 b, .int .i64 n], .agg #[.int .i64 p0, .int .i64 p1, .string p2]] w fun e w' => ∃ A c, e = .returned (.tuple #[.slice A L.length c, .int .i64 e0]) ∧ Kd.C k82 w' A L.length L ∧ L.length ≤ c ∧ Below w.heap.size w w' ∧ (∀ ad, A = some ad → w.heap.size ≤ ad.block) ∧ LiesL w' A L := by
  have hu27 := Tryz.underlying27
  have hu35 := Tryz.underlying35
  have hu63 := Tryz.underlying63
  have hu82 := Tryz.underlying82
  have hu53 := Tryz.underlying53
  obtain ⟨hlen, ok, hok, h⟩ : l0.length ≤ 1000 ∧ ∃ ok, partition_Possible.f k l0 a b n p0 p1 p2 = some ok ∧ _ := by
    unfold partition_Bounds.f at h
    split at h
    · exact ⟨by assumption, Option.bind_eq_some_iff.1 h⟩
    · exact absurd h (by simp)
  have HO := Lib.hid hok
  have HR := Lib.hid hr
  have HG := Lib.hid hG
  have HH := Lib.hid h
  clear hok hr hG h
  go_enter Tryz.func50, Tryz.ntmps50
  go_wp2_with fail
  have B0 := blk_alloc (heap_alloc_new w (.cells #[.int .i64 a, .int .i64 b, .int .i64 n] 27)) (.cells #[.int .i64 p0, .int .i64 p1, .string p2] 35)
  have B1 := heap_alloc_new (w.alloc (.cells #[.int .i64 a, .int .i64 b, .int .i64 n] 27)) (.cells #[.int .i64 p0, .int .i64 p1, .string p2] 35)
  have hB := ((Below.refl w.heap.size w).alloc (Nat.le_refl _) (.cells #[.int .i64 a, .int .i64 b, .int .i64 n] 27)).alloc (by simp only [World.size_alloc]; omega) (.cells #[.int .i64 p0, .int .i64 p1, .string p2] 35)
  simp only [World.size_alloc] at B1
  generalize (w.alloc (.cells #[.int .i64 a, .int .i64 b, .int .i64 n] 27)).alloc (.cells #[.int .i64 p0, .int .i64 p1, .string p2] 35) = W at *
  refine (partition_Possible.calls k A0 c0 l0 a b n p0 p1 p2 ok _ (Kd.C_below HR.out hB) hc (HG.out.below hB) HO.out).mono ?_
  rintro e w1 ⟨rfl, hb1⟩
  replace hB := below_then hB hB.size hb1
  have C0 := blk_below B0 hb1
  have C1 := blk_below B1 hb1
  have D0 := Lib.hid C0
  have D1 := Lib.hid C1
  have HB := Lib.hid hB
  clear B0 B1 hb1 hB C0 C1
  cases ok with
  | false =>
    have h := HH.out
    rw [if_neg (by decide)] at h
    obtain ⟨rfl, rfl⟩ := Prod.mk.inj (Option.some.inj h)
    clear h HH
    go_wp2
    refine bodyPost_ret (v := .tuple #[.slice none 0 0, .int .i64 320]) (by simp [results, Tryz.results50, go_sem, *]) rfl ⟨none, 0, rfl, Kd.C_nil _ _, Nat.le_refl _, HB.out, (fun _ e => by cases e), Or.inl rfl⟩
  | true =>
    have h := HH.out
    rw [if_pos rfl] at h
    obtain ⟨OL, hOL, h⟩ := Option.bind_eq_some_iff.1 h
    obtain ⟨L', hL', e1⟩ := Option.map_eq_some_iff.1 h
    obtain ⟨rfl, rfl⟩ := Prod.mk.inj e1
    have hll := openAll.length hOL
    have HL := Lib.hid hOL
    have HF := Lib.hid hL'
    clear h hOL hL' e1 HH
    have hmk := fun u => make82 u l0.length hlen
    go_wp2
    have RL : RowL (w1.alloc (.cells ((List.replicate l0.length z82).flatMap c82).toArray 82)) w1.heap.size (List.replicate l0.length z82) := heap_alloc_new w1 _
    have hB2 := (Below.refl w1.heap.size w1).alloc (Nat.le_refl _) (.cells ((List.replicate l0.length z82).flatMap c82).toArray 82)
    generalize w1.alloc (.cells ((List.replicate l0.length z82).flatMap c82).toArray 82) = W2 at *
    go_loopw [9, 10, 22] (fun s9 s10 s22 wr => ∃ j : Nat, s22 = .int .i64 j ∧ j ≤ l0.length ∧ RowL wr w1.heap.size (OL.take j ++ List.replicate (l0.length - j) z82) ∧ Below w1.heap.size w1 wr) (fun _ _ s22 _ => l0.length - (intOf s22).toNat)
    case atStart => exact ⟨0, rfl, Nat.zero_le _, by simpa using RL, hB2⟩
    case round =>
      clear RL hB2
      obtain ⟨j, rfl, hj, RL, hB2⟩ := hrel
      by_cases hlt : j < l0.length
      · obtain ⟨ad, e0, t0, t1, t2⟩ := at_T63 (Kd.C_below (Kd.C_below HR.out HB.out) hB2) (j : Int) (by omega) (by omega)
        obtain ⟨r, hr, hrz⟩ := openAll.get HL.out j hlt
        simp only [Int.toNat_natCast] at t0 t1 t2
        subst e0
        have hi0 : (0 : Int) ≤ (j : Int) := by omega
        have hi1 : (j : Int) < (l0.length : Int) := by omega
        have hd : decide ((j : Int) < (l0.length : Int)) = true := decide_eq_true hi1
        have HJ := Lib.hid hr
        have HK := Lib.hid hrz
        clear hr hrz
        generalize rd_T63 l0 (j : Int) = x at *
        have hg1 : w1.heap.size < wr.heap.size := blk_lt RL
        have R2 := Lib.hid (show RowL (wr.alloc (.cells #[.int .i64 x.f0, .int .i64 x.f1, .bool x.f2] 63)) w1.heap.size _ from blk_alloc RL _)
        have hB3 := hB2.alloc hB2.size (.cells #[.int .i64 x.f0, .int .i64 x.f1, .bool x.f2] 63)
        clear RL
        go_wp2_with fail
        refine (partition_open.calls k x.f0 x.f1 x.f2 r.1 r.2.1 r.2.2.1 r.2.2.2.1 r.2.2.2.2.1 r.2.2.2.2.2.1 r.2.2.2.2.2.2.1 r.2.2.2.2.2.2.2.1 r.2.2.2.2.2.2.2.2 _ HJ.out).mono ?_
        rintro e w3 ⟨rfl, hb3⟩
        have R3 : RowL w3 w1.heap.size _ := blk_below R2.out hb3
        have hB4 := below_then hB3 hB3.size hb3
        have hzz : (OL.take j ++ List.replicate (l0.length - j) z82).getD j z82 = z82 := by
          have h1 : (OL.take j).length = j := by simp; omega
          rw [List.getD_eq_getElem?_getD, List.getElem?_append_right (by omega), h1]
          simp [List.getElem?_replicate]
          split <;> rfl
        have HZ := Lib.hid hzz
        clear hzz
        have z0 : w3.cell? ⟨w1.heap.size, j * 9, none⟩ = some (.int .i64 0) := (R3.cell j 0 (by simp; omega) (by omega)).trans (by rw [HZ.out]; rfl)
        have y0 : w3.frozen? ⟨w1.heap.size, j * 9, none⟩ = false := blk_frozen R3 _
        have z1 : w3.cell? ⟨w1.heap.size, j * 9 + 1, none⟩ = some (.bool false) := (R3.cell j 1 (by simp; omega) (by omega)).trans (by rw [HZ.out]; rfl)
        have y1 : w3.frozen? ⟨w1.heap.size, j * 9 + 1, none⟩ = false := blk_frozen R3 _
        have z2 : w3.cell? ⟨w1.heap.size, j * 9 + 2, none⟩ = some (.int .i64 0) := (R3.cell j 2 (by simp; omega) (by omega)).trans (by rw [HZ.out]; rfl)
        have y2 : w3.frozen? ⟨w1.heap.size, j * 9 + 2, none⟩ = false := blk_frozen R3 _
        have z3 : w3.cell? ⟨w1.heap.size, j * 9 + 3, none⟩ = some (.int .i64 0) := (R3.cell j 3 (by simp; omega) (by omega)).trans (by rw [HZ.out]; rfl)
        have y3 : w3.frozen? ⟨w1.heap.size, j * 9 + 3, none⟩ = false := blk_frozen R3 _
        have z4 : w3.cell? ⟨w1.heap.size, j * 9 + 4, none⟩ = some (.string ⟨#[]⟩) := (R3.cell j 4 (by simp; omega) (by omega)).trans (by rw [HZ.out]; rfl)
        have y4 : w3.frozen? ⟨w1.heap.size, j * 9 + 4, none⟩ = false := blk_frozen R3 _
        have z5 : w3.cell? ⟨w1.heap.size, j * 9 + 5, none⟩ = some (.int .i64 0) := (R3.cell j 5 (by simp; omega) (by omega)).trans (by rw [HZ.out]; rfl)
        have y5 : w3.frozen? ⟨w1.heap.size, j * 9 + 5, none⟩ = false := blk_frozen R3 _
        have z6 : w3.cell? ⟨w1.heap.size, j * 9 + 6, none⟩ = some (.int .i64 0) := (R3.cell j 6 (by simp; omega) (by omega)).trans (by rw [HZ.out]; rfl)
        have y6 : w3.frozen? ⟨w1.heap.size, j * 9 + 6, none⟩ = false := blk_frozen R3 _
        have z7 : w3.cell? ⟨w1.heap.size, j * 9 + 7, none⟩ = some (.string ⟨#[]⟩) := (R3.cell j 7 (by simp; omega) (by omega)).trans (by rw [HZ.out]; rfl)
        have y7 : w3.frozen? ⟨w1.heap.size, j * 9 + 7, none⟩ = false := blk_frozen R3 _
        have z8 : w3.cell? ⟨w1.heap.size, j * 9 + 8, none⟩ = some (.int .i64 0) := (R3.cell j 8 (by simp; omega) (by omega)).trans (by rw [HZ.out]; rfl)
        have y8 : w3.frozen? ⟨w1.heap.size, j * 9 + 8, none⟩ = false := blk_frozen R3 _
        go_wp2
        refine ⟨⟨j + 1, by simp, by omega, ?_, ?_⟩, by simp [intOf]; omega⟩
        · rw [← setNext z82 (s82 r) OL l0.length j hll hlt HK.out]
          exact R3.set j (by simp; omega) (s82 r)
        · repeat (refine below_set ?_ (Nat.le_refl _))
          exact hB4
      · have hjl : j = l0.length := by omega
        have hd : decide ((j : Int) < (l0.length : Int)) = false := decide_eq_false (by omega)
        have RO : RowL wr w1.heap.size OL := by
          rw [hjl, Nat.sub_self, List.replicate_zero, List.append_nil, List.take_of_length_le (by omega)] at RL
          exact RL
        have hBw := below_then HB.out HB.out.size hB2
        have C0 := blk_below D0.out hB2
        have C1 := blk_below D1.out hB2
        have hg1 : w.heap.size ≤ w1.heap.size := HB.out.size
        have l0' := blk_lt D0.out
        have l1' := blk_lt D1.out
        have HL0 := Kd.C_below HR.out hBw
        clear RL hB2 hj hjl
        clear HL
        generalize hgg : w1.heap.size = g at *
        have HGW := Lib.hid (show ∀ ad : Addr, some (⟨g, 0, none⟩ : Addr) = some ad → w.heap.size ≤ ad.block from fun ad e => by obtain rfl := Option.some.inj e; show w.heap.size ≤ g; omega)
        clear hgg
        rcases partition_Possible.kind HO.out with rfl | rfl | rfl | rfl
        · have h := HF.out
          rw [if_neg (by decide)] at h
          obtain rfl := Option.some.inj h
          clear h HF
          have k1 := C0
          have i1 := partition_kinds.at0
          have i2 := partition_kinds.fld0_3
          have k0 : wr.cell? ⟨w.heap.size, 0, none⟩ = some (.int .i64 0) := (blk_cell C0 0).trans rfl
          go_wp2
          go_region_held3 (fun w' => w'.cell? ⟨w.heap.size, 0, none⟩ = some (.int .i64 0)) (first
            | assumption
            | exact pw_cell_below hb3 (by assumption)) (first
            | (go_at_call 44
               refine (partition_kinds.tab _).mono ?_
               rintro e w3 ⟨rfl, hb3⟩))
          all_goals
            have R4 : RowL w3 g OL := blk_below (blk_drew RO) hb3
            have hB4 := below_then (below_drew1 hBw) hBw.size hb3
            go_wp2
            refine bodyPost_ret (v := .tuple #[.slice (some ⟨g, 0, none⟩) l0.length l0.length, .int .i64 0]) (by simp [results, Tryz.results50, go_sem, *]) rfl ⟨some ⟨g, 0, none⟩, l0.length, ?_, ?_, ?_, ?_, HGW.out, Or.inr ⟨g, rfl, R4⟩⟩
            · rw [hll]
            · exact R4.reads (by omega)
            · omega
            · exact hB4
        · have h := HF.out
          rw [if_pos (by decide)] at h
          obtain ⟨_, _, hb0, hb1⟩ := partition_Valid.attr (partition_Possible.valid HO.out) (by decide)
          have HH := Lib.hid h
          clear h HF
          have hbn : b.toNat < OL.length := by omega
          have hbl : b < (l0.length : Int) := hb1
          generalize hnl : (p0 == 0 && (p1 == 0 && p2.toList.isEmpty)) = nl at *
          have HN := Lib.hid hnl
          clear hnl
          have i1 := partition_kinds.at1
          have i2 := partition_kinds.fld1_3
          have k0 : wr.cell? ⟨w.heap.size, 0, none⟩ = some (.int .i64 1) := (blk_cell C0 0).trans rfl
          have keepS : ∀ w' : World, w'.heap[w.heap.size]? = some (.cells #[.int .i64 1, .int .i64 b, .int .i64 n] 27 (0, 0)) → w'.heap[w.heap.size + 1]? = some (.cells #[.int .i64 p0, .int .i64 p1, .string p2] 35 (0, 0)) → (w'.cell? ⟨w.heap.size, 0, none⟩ = some (.int .i64 1) ∧ w'.cell? ⟨w.heap.size, 1, none⟩ = some (.int .i64 b) ∧ w'.cell? ⟨w.heap.size, 2, none⟩ = some (.int .i64 n) ∧ w'.cell? ⟨w.heap.size + 1, 0, none⟩ = some (.int .i64 p0) ∧ w'.cell? ⟨w.heap.size + 1, 1, none⟩ = some (.int .i64 p1) ∧ w'.cell? ⟨w.heap.size + 1, 2, none⟩ = some (.string p2)) := fun w' b0 b1 => ⟨(blk_cell b0 0).trans rfl, (blk_cell b0 1).trans rfl, (blk_cell b0 2).trans rfl, (blk_cell b1 0).trans rfl, (blk_cell b1 1).trans rfl, (blk_cell b1 2).trans rfl⟩
          have KS := Lib.hid keepS
          clear keepS D0 D1
          go_wp2
          go_region_held3 (fun w' => w'.cell? ⟨w.heap.size, 0, none⟩ = some (.int .i64 1)) (first
            | assumption
            | exact pw_cell_below hb3 (by assumption)) (first
            | (go_at_call 44
               refine (partition_kinds.tab _).mono ?_
               rintro e w3 ⟨rfl, hb3⟩))
          have R4 : RowL w3 g OL := blk_below (blk_drew RO) hb3
          have hB4 := below_then (below_drew1 hBw) hBw.size hb3
          have C4 := blk_below (blk_drew C0) hb3
          have C5 := blk_below (blk_drew C1) hb3
          have k2 : w3.cell? ⟨w.heap.size, 1, none⟩ = some (.int .i64 b) := (blk_cell C4 1).trans rfl
          obtain ⟨x, hx⟩ : ∃ x, OL.getD b.toNat z82 = x := ⟨_, rfl⟩
          have HX := Lib.hid hx
          clear hx
          have z0 : w3.cell? ⟨g, b.toNat * 9, none⟩ = some (.int .i64 x.f0) := (R4.cell b.toNat 0 (by skip; omega) (by omega)).trans (by rw [HX.out]; rfl)
          have y0 : w3.frozen? ⟨g, b.toNat * 9, none⟩ = false := blk_frozen R4 _
          have z1 : w3.cell? ⟨g, b.toNat * 9 + 1, none⟩ = some (.bool x.f1) := (R4.cell b.toNat 1 (by skip; omega) (by omega)).trans (by rw [HX.out]; rfl)
          have y1 : w3.frozen? ⟨g, b.toNat * 9 + 1, none⟩ = false := blk_frozen R4 _
          have z2 : w3.cell? ⟨g, b.toNat * 9 + 2, none⟩ = some (.int .i64 x.f2.f0) := (R4.cell b.toNat 2 (by skip; omega) (by omega)).trans (by rw [HX.out]; rfl)
          have y2 : w3.frozen? ⟨g, b.toNat * 9 + 2, none⟩ = false := blk_frozen R4 _
          have z3 : w3.cell? ⟨g, b.toNat * 9 + 3, none⟩ = some (.int .i64 x.f2.f1) := (R4.cell b.toNat 3 (by skip; omega) (by omega)).trans (by rw [HX.out]; rfl)
          have y3 : w3.frozen? ⟨g, b.toNat * 9 + 3, none⟩ = false := blk_frozen R4 _
          have z4 : w3.cell? ⟨g, b.toNat * 9 + 4, none⟩ = some (.string x.f2.f2) := (R4.cell b.toNat 4 (by skip; omega) (by omega)).trans (by rw [HX.out]; rfl)
          have y4 : w3.frozen? ⟨g, b.toNat * 9 + 4, none⟩ = false := blk_frozen R4 _
          have z5 : w3.cell? ⟨g, b.toNat * 9 + 5, none⟩ = some (.int .i64 x.f3.f0) := (R4.cell b.toNat 5 (by skip; omega) (by omega)).trans (by rw [HX.out]; rfl)
          have y5 : w3.frozen? ⟨g, b.toNat * 9 + 5, none⟩ = false := blk_frozen R4 _
          have z6 : w3.cell? ⟨g, b.toNat * 9 + 6, none⟩ = some (.int .i64 x.f3.f1) := (R4.cell b.toNat 6 (by skip; omega) (by omega)).trans (by rw [HX.out]; rfl)
          have y6 : w3.frozen? ⟨g, b.toNat * 9 + 6, none⟩ = false := blk_frozen R4 _
          have z7 : w3.cell? ⟨g, b.toNat * 9 + 7, none⟩ = some (.string x.f3.f2) := (R4.cell b.toNat 7 (by skip; omega) (by omega)).trans (by rw [HX.out]; rfl)
          have y7 : w3.frozen? ⟨g, b.toNat * 9 + 7, none⟩ = false := blk_frozen R4 _
          have z8 : w3.cell? ⟨g, b.toNat * 9 + 8, none⟩ = some (.int .i64 x.f4) := (R4.cell b.toNat 8 (by skip; omega) (by omega)).trans (by rw [HX.out]; rfl)
          have y8 : w3.frozen? ⟨g, b.toNat * 9 + 8, none⟩ = false := blk_frozen R4 _
          have E0 := Lib.hid (RowL.far (g := g) (i := b.toNat) (x := ⟨1, false, z35, z35, 0⟩) C4 (by omega))
          have E1 := Lib.hid (RowL.far (g := g) (i := b.toNat) (x := ⟨1, false, z35, z35, 0⟩) C5 (by omega))
          have R5 := Lib.hid (R4.set b.toNat hbn ⟨1, false, z35, z35, 0⟩)
          have HB5 := Lib.hid (RowL.below (g := g) (i := b.toNat) (x := ⟨1, false, z35, z35, 0⟩) hB4 (by omega))
          replace C4 := Lib.hid C4
          replace C5 := Lib.hid C5
          clear RO hBw C0 C1 k0 i1 i2
          go_wp2
          have HX' := Lib.hid (show (OL.set b.toNat ⟨1, false, z35, z35, 0⟩).getD b.toNat z82 = ⟨1, false, z35, z35, 0⟩ by simp [List.getD_eq_getElem?_getD, hbn])
          clear z0 y0 z1 y1 z2 y2 z3 y3 z4 y4 z5 y5 z6 y6 z7 y7 z8 y8 R4 hB4 C4 C5 HX
          have HX := HX'
          clear HX'
          have W5 := Lib.hid (rfl : (((((((((w3).setCell ⟨g, b.toNat * 9, none⟩ (.int .i64 1)).setCell ⟨g, b.toNat * 9 + 1, none⟩ (.bool false)).setCell ⟨g, b.toNat * 9 + 2, none⟩ (.int .i64 0)).setCell ⟨g, b.toNat * 9 + 3, none⟩ (.int .i64 0)).setCell ⟨g, b.toNat * 9 + 4, none⟩ (.string ⟨#[]⟩)).setCell ⟨g, b.toNat * 9 + 5, none⟩ (.int .i64 0)).setCell ⟨g, b.toNat * 9 + 6, none⟩ (.int .i64 0)).setCell ⟨g, b.toNat * 9 + 7, none⟩ (.string ⟨#[]⟩)).setCell ⟨g, b.toNat * 9 + 8, none⟩ (.int .i64 0) = (((((((((w3).setCell ⟨g, b.toNat * 9, none⟩ (.int .i64 1)).setCell ⟨g, b.toNat * 9 + 1, none⟩ (.bool false)).setCell ⟨g, b.toNat * 9 + 2, none⟩ (.int .i64 0)).setCell ⟨g, b.toNat * 9 + 3, none⟩ (.int .i64 0)).setCell ⟨g, b.toNat * 9 + 4, none⟩ (.string ⟨#[]⟩)).setCell ⟨g, b.toNat * 9 + 5, none⟩ (.int .i64 0)).setCell ⟨g, b.toNat * 9 + 6, none⟩ (.int .i64 0)).setCell ⟨g, b.toNat * 9 + 7, none⟩ (.string ⟨#[]⟩)).setCell ⟨g, b.toNat * 9 + 8, none⟩ (.int .i64 0))
          replace E0 := Lib.hid (show ((((((((((w3).setCell ⟨g, b.toNat * 9, none⟩ (.int .i64 1)).setCell ⟨g, b.toNat * 9 + 1, none⟩ (.bool false)).setCell ⟨g, b.toNat * 9 + 2, none⟩ (.int .i64 0)).setCell ⟨g, b.toNat * 9 + 3, none⟩ (.int .i64 0)).setCell ⟨g, b.toNat * 9 + 4, none⟩ (.string ⟨#[]⟩)).setCell ⟨g, b.toNat * 9 + 5, none⟩ (.int .i64 0)).setCell ⟨g, b.toNat * 9 + 6, none⟩ (.int .i64 0)).setCell ⟨g, b.toNat * 9 + 7, none⟩ (.string ⟨#[]⟩)).setCell ⟨g, b.toNat * 9 + 8, none⟩ (.int .i64 0)).heap[w.heap.size]? = some (.cells #[.int .i64 1, .int .i64 b, .int .i64 n] 27 (0, 0)) from E0.out)
          replace E1 := Lib.hid (show ((((((((((w3).setCell ⟨g, b.toNat * 9, none⟩ (.int .i64 1)).setCell ⟨g, b.toNat * 9 + 1, none⟩ (.bool false)).setCell ⟨g, b.toNat * 9 + 2, none⟩ (.int .i64 0)).setCell ⟨g, b.toNat * 9 + 3, none⟩ (.int .i64 0)).setCell ⟨g, b.toNat * 9 + 4, none⟩ (.string ⟨#[]⟩)).setCell ⟨g, b.toNat * 9 + 5, none⟩ (.int .i64 0)).setCell ⟨g, b.toNat * 9 + 6, none⟩ (.int .i64 0)).setCell ⟨g, b.toNat * 9 + 7, none⟩ (.string ⟨#[]⟩)).setCell ⟨g, b.toNat * 9 + 8, none⟩ (.int .i64 0)).heap[w.heap.size + 1]? = some (.cells #[.int .i64 p0, .int .i64 p1, .string p2] 35 (0, 0)) from E1.out)
          replace R5 := Lib.hid (show RowL ((((((((((w3).setCell ⟨g, b.toNat * 9, none⟩ (.int .i64 1)).setCell ⟨g, b.toNat * 9 + 1, none⟩ (.bool false)).setCell ⟨g, b.toNat * 9 + 2, none⟩ (.int .i64 0)).setCell ⟨g, b.toNat * 9 + 3, none⟩ (.int .i64 0)).setCell ⟨g, b.toNat * 9 + 4, none⟩ (.string ⟨#[]⟩)).setCell ⟨g, b.toNat * 9 + 5, none⟩ (.int .i64 0)).setCell ⟨g, b.toNat * 9 + 6, none⟩ (.int .i64 0)).setCell ⟨g, b.toNat * 9 + 7, none⟩ (.string ⟨#[]⟩)).setCell ⟨g, b.toNat * 9 + 8, none⟩ (.int .i64 0)) g (OL.set b.toNat ⟨1, false, z35, z35, 0⟩) from R5.out)
          replace HB5 := Lib.hid (show Below w.heap.size w ((((((((((w3).setCell ⟨g, b.toNat * 9, none⟩ (.int .i64 1)).setCell ⟨g, b.toNat * 9 + 1, none⟩ (.bool false)).setCell ⟨g, b.toNat * 9 + 2, none⟩ (.int .i64 0)).setCell ⟨g, b.toNat * 9 + 3, none⟩ (.int .i64 0)).setCell ⟨g, b.toNat * 9 + 4, none⟩ (.string ⟨#[]⟩)).setCell ⟨g, b.toNat * 9 + 5, none⟩ (.int .i64 0)).setCell ⟨g, b.toNat * 9 + 6, none⟩ (.int .i64 0)).setCell ⟨g, b.toNat * 9 + 7, none⟩ (.string ⟨#[]⟩)).setCell ⟨g, b.toNat * 9 + 8, none⟩ (.int .i64 0)) from HB5.out)
          generalize (((((((((w3).setCell ⟨g, b.toNat * 9, none⟩ (.int .i64 1)).setCell ⟨g, b.toNat * 9 + 1, none⟩ (.bool false)).setCell ⟨g, b.toNat * 9 + 2, none⟩ (.int .i64 0)).setCell ⟨g, b.toNat * 9 + 3, none⟩ (.int .i64 0)).setCell ⟨g, b.toNat * 9 + 4, none⟩ (.string ⟨#[]⟩)).setCell ⟨g, b.toNat * 9 + 5, none⟩ (.int .i64 0)).setCell ⟨g, b.toNat * 9 + 6, none⟩ (.int .i64 0)).setCell ⟨g, b.toNat * 9 + 7, none⟩ (.string ⟨#[]⟩)).setCell ⟨g, b.toNat * 9 + 8, none⟩ (.int .i64 0) = V at *
          clear W5 k2
          have F0 := Lib.hid (blk_drew E0.out)
          have F1 := Lib.hid (blk_drew E1.out)
          go_region_held3 (fun w' => w'.cell? ⟨w.heap.size, 0, none⟩ = some (.int .i64 1) ∧ w'.cell? ⟨w.heap.size, 1, none⟩ = some (.int .i64 b) ∧ w'.cell? ⟨w.heap.size, 2, none⟩ = some (.int .i64 n) ∧ w'.cell? ⟨w.heap.size + 1, 0, none⟩ = some (.int .i64 p0) ∧ w'.cell? ⟨w.heap.size + 1, 1, none⟩ = some (.int .i64 p1) ∧ w'.cell? ⟨w.heap.size + 1, 2, none⟩ = some (.string p2)) (first
            | (with_reducible exact KS.out _ E0.out E1.out)
            | (with_reducible exact KS.out _ F0.out F1.out)
            | (with_reducible exact KS.out _ G0.out G1.out)) (first
            | (go_at_call 47
               refine (partition_null.calls 0 0 ⟨#[]⟩ _ rfl).mono ?_
               rintro e w5 ⟨rfl, hb5⟩
               have G0 := Lib.hid (blk_below F0.out hb5)
               have G1 := Lib.hid (blk_below F1.out hb5)))
          have R6 := Lib.hid (show RowL w5 g _ from blk_below (blk_drew R5.out) hb5)
          have HB6 := Lib.hid (below_then (below_drew1 HB5.out) HB5.out.size hb5)
          have HN2 : (!(p0 == 0) || (!(p1 == 0) || !p2.toList.isEmpty)) = !nl := by
            rw [← HN.out, Bool.not_and, Bool.not_and]
          rw [HN2]
          clear HN2 E0 E1 F0 F1 R5 HB5 hb5 HN
          have h := HH.out
          clear HH
          cases nl with
          | true =>
            rw [if_pos rfl] at h
            obtain rfl := Option.some.inj h
            clear h
            go_wp2
            refine bodyPost_ret (v := .tuple #[.slice (some ⟨g, 0, none⟩) l0.length l0.length, .int .i64 0]) (by simp [results, Tryz.results50, go_sem, *]) rfl ⟨some ⟨g, 0, none⟩, l0.length, ?_, ?_, ?_, ?_, HGW.out, Or.inr ⟨g, rfl, R6.out⟩⟩
            · rfl
            · have := R6.out.reads (by simp; omega)
              rwa [List.length_set, hll] at this
            · exact Nat.le_refl _
            · exact HB6.out
          | false =>
            rw [if_neg (by decide)] at h
            obtain ⟨q, hq, rfl⟩ := Option.map_eq_some_iff.1 h
            have HQ := Lib.hid (show partition_spec_same.f 1 b n p0 p1 p2 = some (q.1, q.2.1, q.2.2) from hq)
            clear h hq
            have H0 := Lib.hid (blk_drew G0.out)
            have H1 := Lib.hid (blk_drew G1.out)
            have R7 := Lib.hid (show RowL w5.drew g _ from blk_drew R6.out)
            go_wp2
            go_region_held3 (fun w' => w'.cell? ⟨w.heap.size, 0, none⟩ = some (.int .i64 1) ∧ w'.cell? ⟨w.heap.size, 1, none⟩ = some (.int .i64 b) ∧ w'.cell? ⟨w.heap.size, 2, none⟩ = some (.int .i64 n) ∧ w'.cell? ⟨w.heap.size + 1, 0, none⟩ = some (.int .i64 p0) ∧ w'.cell? ⟨w.heap.size + 1, 1, none⟩ = some (.int .i64 p1) ∧ w'.cell? ⟨w.heap.size + 1, 2, none⟩ = some (.string p2)) (first
              | (with_reducible exact KS.out _ G0.out G1.out)
              | (with_reducible exact KS.out _ H0.out H1.out)
              | (with_reducible exact KS.out _ J0.out J1.out)
              | (exact KS.out _ (RowL.far (x := ⟨0, true, ⟨p0, p1, p2⟩, ⟨q.1, q.2.1, q.2.2⟩, 0⟩) J0.out (by omega)) (RowL.far (x := ⟨0, true, ⟨p0, p1, p2⟩, ⟨q.1, q.2.1, q.2.2⟩, 0⟩) J1.out (by omega)))) (first
              | (go_at_call 76
                 refine (partition_spec_same.calls 1 b n p0 p1 p2 q.1 q.2.1 q.2.2 _ HQ.out).mono ?_
                 rintro e w6 ⟨rfl, hb6⟩
                 have J0 := Lib.hid (blk_below H0.out hb6)
                 have J1 := Lib.hid (blk_below H1.out hb6)
                 have R8 : RowL w6 g _ := blk_below R7.out hb6
                 have z0 : w6.cell? ⟨g, b.toNat * 9, none⟩ = some (.int .i64 1) := (R8.cell b.toNat 0 (by simp; omega) (by omega)).trans (by rw [HX.out]; rfl)
                 have y0 : w6.frozen? ⟨g, b.toNat * 9, none⟩ = false := blk_frozen R8 _
                 have z1 : w6.cell? ⟨g, b.toNat * 9 + 1, none⟩ = some (.bool false) := (R8.cell b.toNat 1 (by simp; omega) (by omega)).trans (by rw [HX.out]; rfl)
                 have y1 : w6.frozen? ⟨g, b.toNat * 9 + 1, none⟩ = false := blk_frozen R8 _
                 have z2 : w6.cell? ⟨g, b.toNat * 9 + 2, none⟩ = some (.int .i64 0) := (R8.cell b.toNat 2 (by simp; omega) (by omega)).trans (by rw [HX.out]; rfl)
                 have y2 : w6.frozen? ⟨g, b.toNat * 9 + 2, none⟩ = false := blk_frozen R8 _
                 have z3 : w6.cell? ⟨g, b.toNat * 9 + 3, none⟩ = some (.int .i64 0) := (R8.cell b.toNat 3 (by simp; omega) (by omega)).trans (by rw [HX.out]; rfl)
                 have y3 : w6.frozen? ⟨g, b.toNat * 9 + 3, none⟩ = false := blk_frozen R8 _
                 have z4 : w6.cell? ⟨g, b.toNat * 9 + 4, none⟩ = some (.string ⟨#[]⟩) := (R8.cell b.toNat 4 (by simp; omega) (by omega)).trans (by rw [HX.out]; rfl)
                 have y4 : w6.frozen? ⟨g, b.toNat * 9 + 4, none⟩ = false := blk_frozen R8 _
                 have z5 : w6.cell? ⟨g, b.toNat * 9 + 5, none⟩ = some (.int .i64 0) := (R8.cell b.toNat 5 (by simp; omega) (by omega)).trans (by rw [HX.out]; rfl)
                 have y5 : w6.frozen? ⟨g, b.toNat * 9 + 5, none⟩ = false := blk_frozen R8 _
                 have z6 : w6.cell? ⟨g, b.toNat * 9 + 6, none⟩ = some (.int .i64 0) := (R8.cell b.toNat 6 (by simp; omega) (by omega)).trans (by rw [HX.out]; rfl)
                 have y6 : w6.frozen? ⟨g, b.toNat * 9 + 6, none⟩ = false := blk_frozen R8 _
                 have z7 : w6.cell? ⟨g, b.toNat * 9 + 7, none⟩ = some (.string ⟨#[]⟩) := (R8.cell b.toNat 7 (by simp; omega) (by omega)).trans (by rw [HX.out]; rfl)
                 have y7 : w6.frozen? ⟨g, b.toNat * 9 + 7, none⟩ = false := blk_frozen R8 _
                 have z8 : w6.cell? ⟨g, b.toNat * 9 + 8, none⟩ = some (.int .i64 0) := (R8.cell b.toNat 8 (by simp; omega) (by omega)).trans (by rw [HX.out]; rfl)
                 have y8 : w6.frozen? ⟨g, b.toNat * 9 + 8, none⟩ = false := blk_frozen R8 _))
            all_goals
              have HB7 := below_then (below_drew1 HB6.out) HB6.out.size hb6
              have R9 := Lib.hid (R8.set b.toNat (by simp; omega) ⟨0, true, ⟨p0, p1, p2⟩, ⟨q.1, q.2.1, q.2.2⟩, 0⟩)
              have HB9 := Lib.hid (RowL.below (g := g) (i := b.toNat) (x := ⟨0, true, ⟨p0, p1, p2⟩, ⟨q.1, q.2.1, q.2.2⟩, 0⟩) HB7 (by omega))
              go_wp2
              refine bodyPost_ret (v := .tuple #[.slice (some ⟨g, 0, none⟩) l0.length l0.length, .int .i64 0]) (by simp [results, Tryz.results50, go_sem, *]) rfl ⟨some ⟨g, 0, none⟩, l0.length, ?_, ?_, ?_, ?_, HGW.out, Or.inr ⟨g, rfl, (by have := R9.out; rw [List.set_set] at this; exact this)⟩⟩
              · rfl
              · have := R9.out
                rw [List.set_set] at this
                have h2 := this.reads (by simp; omega)
                rwa [List.length_set, hll] at h2
              · exact Nat.le_refl _
              · exact HB9.out
        · have h := HF.out
          rw [if_neg (by decide)] at h
          obtain rfl := Option.some.inj h
          clear h HF
          have k1 := C0
          have i1 := partition_kinds.at2
          have i2 := partition_kinds.fld2_3
          have k0 : wr.cell? ⟨w.heap.size, 0, none⟩ = some (.int .i64 2) := (blk_cell C0 0).trans rfl
          go_wp2
          go_region_held3 (fun w' => w'.cell? ⟨w.heap.size, 0, none⟩ = some (.int .i64 2)) (first
            | assumption
            | exact pw_cell_below hb3 (by assumption)) (first
            | (go_at_call 44
               refine (partition_kinds.tab _).mono ?_
               rintro e w3 ⟨rfl, hb3⟩))
          all_goals
            have R4 : RowL w3 g OL := blk_below (blk_drew RO) hb3
            have hB4 := below_then (below_drew1 hBw) hBw.size hb3
            go_wp2
            refine bodyPost_ret (v := .tuple #[.slice (some ⟨g, 0, none⟩) l0.length l0.length, .int .i64 0]) (by simp [results, Tryz.results50, go_sem, *]) rfl ⟨some ⟨g, 0, none⟩, l0.length, ?_, ?_, ?_, ?_, HGW.out, Or.inr ⟨g, rfl, R4⟩⟩
            · rw [hll]
            · exact R4.reads (by omega)
            · omega
            · exact hB4
        · have h := HF.out
          rw [if_pos (by decide)] at h
          obtain ⟨_, _, hb0, hb1⟩ := partition_Valid.attr (partition_Possible.valid HO.out) (by decide)
          have HH := Lib.hid h
          clear h HF
          have hbn : b.toNat < OL.length := by omega
          have hbl : b < (l0.length : Int) := hb1
          generalize hnl : (p0 == 0 && (p1 == 0 && p2.toList.isEmpty)) = nl at *
          have HN := Lib.hid hnl
          clear hnl
          have i1 := partition_kinds.at3
          have i2 := partition_kinds.fld3_3
          have k0 : wr.cell? ⟨w.heap.size, 0, none⟩ = some (.int .i64 3) := (blk_cell C0 0).trans rfl
          have keepS : ∀ w' : World, w'.heap[w.heap.size]? = some (.cells #[.int .i64 3, .int .i64 b, .int .i64 n] 27 (0, 0)) → w'.heap[w.heap.size + 1]? = some (.cells #[.int .i64 p0, .int .i64 p1, .string p2] 35 (0, 0)) → (w'.cell? ⟨w.heap.size, 0, none⟩ = some (.int .i64 3) ∧ w'.cell? ⟨w.heap.size, 1, none⟩ = some (.int .i64 b) ∧ w'.cell? ⟨w.heap.size, 2, none⟩ = some (.int .i64 n) ∧ w'.cell? ⟨w.heap.size + 1, 0, none⟩ = some (.int .i64 p0) ∧ w'.cell? ⟨w.heap.size + 1, 1, none⟩ = some (.int .i64 p1) ∧ w'.cell? ⟨w.heap.size + 1, 2, none⟩ = some (.string p2)) := fun w' b0 b1 => ⟨(blk_cell b0 0).trans rfl, (blk_cell b0 1).trans rfl, (blk_cell b0 2).trans rfl, (blk_cell b1 0).trans rfl, (blk_cell b1 1).trans rfl, (blk_cell b1 2).trans rfl⟩
          have KS := Lib.hid keepS
          clear keepS D0 D1
          go_wp2
          go_region_held3 (fun w' => w'.cell? ⟨w.heap.size, 0, none⟩ = some (.int .i64 3)) (first
            | assumption
            | exact pw_cell_below hb3 (by assumption)) (first
            | (go_at_call 44
               refine (partition_kinds.tab _).mono ?_
               rintro e w3 ⟨rfl, hb3⟩))
          have R4 : RowL w3 g OL := blk_below (blk_drew RO) hb3
          have hB4 := below_then (below_drew1 hBw) hBw.size hb3
          have C4 := blk_below (blk_drew C0) hb3
          have C5 := blk_below (blk_drew C1) hb3
          have k2 : w3.cell? ⟨w.heap.size, 1, none⟩ = some (.int .i64 b) := (blk_cell C4 1).trans rfl
          obtain ⟨x, hx⟩ : ∃ x, OL.getD b.toNat z82 = x := ⟨_, rfl⟩
          have HX := Lib.hid hx
          clear hx
          have z0 : w3.cell? ⟨g, b.toNat * 9, none⟩ = some (.int .i64 x.f0) := (R4.cell b.toNat 0 (by skip; omega) (by omega)).trans (by rw [HX.out]; rfl)
          have y0 : w3.frozen? ⟨g, b.toNat * 9, none⟩ = false := blk_frozen R4 _
          have z1 : w3.cell? ⟨g, b.toNat * 9 + 1, none⟩ = some (.bool x.f1) := (R4.cell b.toNat 1 (by skip; omega) (by omega)).trans (by rw [HX.out]; rfl)
          have y1 : w3.frozen? ⟨g, b.toNat * 9 + 1, none⟩ = false := blk_frozen R4 _
          have z2 : w3.cell? ⟨g, b.toNat * 9 + 2, none⟩ = some (.int .i64 x.f2.f0) := (R4.cell b.toNat 2 (by skip; omega) (by omega)).trans (by rw [HX.out]; rfl)
          have y2 : w3.frozen? ⟨g, b.toNat * 9 + 2, none⟩ = false := blk_frozen R4 _
          have z3 : w3.cell? ⟨g, b.toNat * 9 + 3, none⟩ = some (.int .i64 x.f2.f1) := (R4.cell b.toNat 3 (by skip; omega) (by omega)).trans (by rw [HX.out]; rfl)
          have y3 : w3.frozen? ⟨g, b.toNat * 9 + 3, none⟩ = false := blk_frozen R4 _
          have z4 : w3.cell? ⟨g, b.toNat * 9 + 4, none⟩ = some (.string x.f2.f2) := (R4.cell b.toNat 4 (by skip; omega) (by omega)).trans (by rw [HX.out]; rfl)
          have y4 : w3.frozen? ⟨g, b.toNat * 9 + 4, none⟩ = false := blk_frozen R4 _
          have z5 : w3.cell? ⟨g, b.toNat * 9 + 5, none⟩ = some (.int .i64 x.f3.f0) := (R4.cell b.toNat 5 (by skip; omega) (by omega)).trans (by rw [HX.out]; rfl)
          have y5 : w3.frozen? ⟨g, b.toNat * 9 + 5, none⟩ = false := blk_frozen R4 _
          have z6 : w3.cell? ⟨g, b.toNat * 9 + 6, none⟩ = some (.int .i64 x.f3.f1) := (R4.cell b.toNat 6 (by skip; omega) (by omega)).trans (by rw [HX.out]; rfl)
          have y6 : w3.frozen? ⟨g, b.toNat * 9 + 6, none⟩ = false := blk_frozen R4 _
          have z7 : w3.cell? ⟨g, b.toNat * 9 + 7, none⟩ = some (.string x.f3.f2) := (R4.cell b.toNat 7 (by skip; omega) (by omega)).trans (by rw [HX.out]; rfl)
          have y7 : w3.frozen? ⟨g, b.toNat * 9 + 7, none⟩ = false := blk_frozen R4 _
          have z8 : w3.cell? ⟨g, b.toNat * 9 + 8, none⟩ = some (.int .i64 x.f4) := (R4.cell b.toNat 8 (by skip; omega) (by omega)).trans (by rw [HX.out]; rfl)
          have y8 : w3.frozen? ⟨g, b.toNat * 9 + 8, none⟩ = false := blk_frozen R4 _
          have E0 := Lib.hid (RowL.far (g := g) (i := b.toNat) (x := ⟨1, false, z35, z35, 0⟩) C4 (by omega))
          have E1 := Lib.hid (RowL.far (g := g) (i := b.toNat) (x := ⟨1, false, z35, z35, 0⟩) C5 (by omega))
          have R5 := Lib.hid (R4.set b.toNat hbn ⟨1, false, z35, z35, 0⟩)
          have HB5 := Lib.hid (RowL.below (g := g) (i := b.toNat) (x := ⟨1, false, z35, z35, 0⟩) hB4 (by omega))
          replace C4 := Lib.hid C4
          replace C5 := Lib.hid C5
          clear RO hBw C0 C1 k0 i1 i2
          go_wp2
          have HX' := Lib.hid (show (OL.set b.toNat ⟨1, false, z35, z35, 0⟩).getD b.toNat z82 = ⟨1, false, z35, z35, 0⟩ by simp [List.getD_eq_getElem?_getD, hbn])
          clear z0 y0 z1 y1 z2 y2 z3 y3 z4 y4 z5 y5 z6 y6 z7 y7 z8 y8 R4 hB4 C4 C5 HX
          have HX := HX'
          clear HX'
          have W5 := Lib.hid (rfl : (((((((((w3).setCell ⟨g, b.toNat * 9, none⟩ (.int .i64 1)).setCell ⟨g, b.toNat * 9 + 1, none⟩ (.bool false)).setCell ⟨g, b.toNat * 9 + 2, none⟩ (.int .i64 0)).setCell ⟨g, b.toNat * 9 + 3, none⟩ (.int .i64 0)).setCell ⟨g, b.toNat * 9 + 4, none⟩ (.string ⟨#[]⟩)).setCell ⟨g, b.toNat * 9 + 5, none⟩ (.int .i64 0)).setCell ⟨g, b.toNat * 9 + 6, none⟩ (.int .i64 0)).setCell ⟨g, b.toNat * 9 + 7, none⟩ (.string ⟨#[]⟩)).setCell ⟨g, b.toNat * 9 + 8, none⟩ (.int .i64 0) = (((((((((w3).setCell ⟨g, b.toNat * 9, none⟩ (.int .i64 1)).setCell ⟨g, b.toNat * 9 + 1, none⟩ (.bool false)).setCell ⟨g, b.toNat * 9 + 2, none⟩ (.int .i64 0)).setCell ⟨g, b.toNat * 9 + 3, none⟩ (.int .i64 0)).setCell ⟨g, b.toNat * 9 + 4, none⟩ (.string ⟨#[]⟩)).setCell ⟨g, b.toNat * 9 + 5, none⟩ (.int .i64 0)).setCell ⟨g, b.toNat * 9 + 6, none⟩ (.int .i64 0)).setCell ⟨g, b.toNat * 9 + 7, none⟩ (.string ⟨#[]⟩)).setCell ⟨g, b.toNat * 9 + 8, none⟩ (.int .i64 0))
          replace E0 := Lib.hid (show ((((((((((w3).setCell ⟨g, b.toNat * 9, none⟩ (.int .i64 1)).setCell ⟨g, b.toNat * 9 + 1, none⟩ (.bool false)).setCell ⟨g, b.toNat * 9 + 2, none⟩ (.int .i64 0)).setCell ⟨g, b.toNat * 9 + 3, none⟩ (.int .i64 0)).setCell ⟨g, b.toNat * 9 + 4, none⟩ (.string ⟨#[]⟩)).setCell ⟨g, b.toNat * 9 + 5, none⟩ (.int .i64 0)).setCell ⟨g, b.toNat * 9 + 6, none⟩ (.int .i64 0)).setCell ⟨g, b.toNat * 9 + 7, none⟩ (.string ⟨#[]⟩)).setCell ⟨g, b.toNat * 9 + 8, none⟩ (.int .i64 0)).heap[w.heap.size]? = some (.cells #[.int .i64 3, .int .i64 b, .int .i64 n] 27 (0, 0)) from E0.out)
          replace E1 := Lib.hid (show ((((((((((w3).setCell ⟨g, b.toNat * 9, none⟩ (.int .i64 1)).setCell ⟨g, b.toNat * 9 + 1, none⟩ (.bool false)).setCell ⟨g, b.toNat * 9 + 2, none⟩ (.int .i64 0)).setCell ⟨g, b.toNat * 9 + 3, none⟩ (.int .i64 0)).setCell ⟨g, b.toNat * 9 + 4, none⟩ (.string ⟨#[]⟩)).setCell ⟨g, b.toNat * 9 + 5, none⟩ (.int .i64 0)).setCell ⟨g, b.toNat * 9 + 6, none⟩ (.int .i64 0)).setCell ⟨g, b.toNat * 9 + 7, none⟩ (.string ⟨#[]⟩)).setCell ⟨g, b.toNat * 9 + 8, none⟩ (.int .i64 0)).heap[w.heap.size + 1]? = some (.cells #[.int .i64 p0, .int .i64 p1, .string p2] 35 (0, 0)) from E1.out)
          replace R5 := Lib.hid (show RowL ((((((((((w3).setCell ⟨g, b.toNat * 9, none⟩ (.int .i64 1)).setCell ⟨g, b.toNat * 9 + 1, none⟩ (.bool false)).setCell ⟨g, b.toNat * 9 + 2, none⟩ (.int .i64 0)).setCell ⟨g, b.toNat * 9 + 3, none⟩ (.int .i64 0)).setCell ⟨g, b.toNat * 9 + 4, none⟩ (.string ⟨#[]⟩)).setCell ⟨g, b.toNat * 9 + 5, none⟩ (.int .i64 0)).setCell ⟨g, b.toNat * 9 + 6, none⟩ (.int .i64 0)).setCell ⟨g, b.toNat * 9 + 7, none⟩ (.string ⟨#[]⟩)).setCell ⟨g, b.toNat * 9 + 8, none⟩ (.int .i64 0)) g (OL.set b.toNat ⟨1, false, z35, z35, 0⟩) from R5.out)
          replace HB5 := Lib.hid (show Below w.heap.size w ((((((((((w3).setCell ⟨g, b.toNat * 9, none⟩ (.int .i64 1)).setCell ⟨g, b.toNat * 9 + 1, none⟩ (.bool false)).setCell ⟨g, b.toNat * 9 + 2, none⟩ (.int .i64 0)).setCell ⟨g, b.toNat * 9 + 3, none⟩ (.int .i64 0)).setCell ⟨g, b.toNat * 9 + 4, none⟩ (.string ⟨#[]⟩)).setCell ⟨g, b.toNat * 9 + 5, none⟩ (.int .i64 0)).setCell ⟨g, b.toNat * 9 + 6, none⟩ (.int .i64 0)).setCell ⟨g, b.toNat * 9 + 7, none⟩ (.string ⟨#[]⟩)).setCell ⟨g, b.toNat * 9 + 8, none⟩ (.int .i64 0)) from HB5.out)
          generalize (((((((((w3).setCell ⟨g, b.toNat * 9, none⟩ (.int .i64 1)).setCell ⟨g, b.toNat * 9 + 1, none⟩ (.bool false)).setCell ⟨g, b.toNat * 9 + 2, none⟩ (.int .i64 0)).setCell ⟨g, b.toNat * 9 + 3, none⟩ (.int .i64 0)).setCell ⟨g, b.toNat * 9 + 4, none⟩ (.string ⟨#[]⟩)).setCell ⟨g, b.toNat * 9 + 5, none⟩ (.int .i64 0)).setCell ⟨g, b.toNat * 9 + 6, none⟩ (.int .i64 0)).setCell ⟨g, b.toNat * 9 + 7, none⟩ (.string ⟨#[]⟩)).setCell ⟨g, b.toNat * 9 + 8, none⟩ (.int .i64 0) = V at *
          clear W5 k2
          have F0 := Lib.hid (blk_drew E0.out)
          have F1 := Lib.hid (blk_drew E1.out)
          go_region_held3 (fun w' => w'.cell? ⟨w.heap.size, 0, none⟩ = some (.int .i64 3) ∧ w'.cell? ⟨w.heap.size, 1, none⟩ = some (.int .i64 b) ∧ w'.cell? ⟨w.heap.size, 2, none⟩ = some (.int .i64 n) ∧ w'.cell? ⟨w.heap.size + 1, 0, none⟩ = some (.int .i64 p0) ∧ w'.cell? ⟨w.heap.size + 1, 1, none⟩ = some (.int .i64 p1) ∧ w'.cell? ⟨w.heap.size + 1, 2, none⟩ = some (.string p2)) (first
            | (with_reducible exact KS.out _ E0.out E1.out)
            | (with_reducible exact KS.out _ F0.out F1.out)
            | (with_reducible exact KS.out _ G0.out G1.out)) (first
            | (go_at_call 47
               refine (partition_null.calls 0 0 ⟨#[]⟩ _ rfl).mono ?_
               rintro e w5 ⟨rfl, hb5⟩
               have G0 := Lib.hid (blk_below F0.out hb5)
               have G1 := Lib.hid (blk_below F1.out hb5)))
          have R6 := Lib.hid (show RowL w5 g _ from blk_below (blk_drew R5.out) hb5)
          have HB6 := Lib.hid (below_then (below_drew1 HB5.out) HB5.out.size hb5)
          have HN2 : (!(p0 == 0) || (!(p1 == 0) || !p2.toList.isEmpty)) = !nl := by
            rw [← HN.out, Bool.not_and, Bool.not_and]
          rw [HN2]
          clear HN2 E0 E1 F0 F1 R5 HB5 hb5 HN
          have h := HH.out
          clear HH
          cases nl with
          | true =>
            rw [if_pos rfl] at h
            obtain rfl := Option.some.inj h
            clear h
            go_wp2
            refine bodyPost_ret (v := .tuple #[.slice (some ⟨g, 0, none⟩) l0.length l0.length, .int .i64 0]) (by simp [results, Tryz.results50, go_sem, *]) rfl ⟨some ⟨g, 0, none⟩, l0.length, ?_, ?_, ?_, ?_, HGW.out, Or.inr ⟨g, rfl, R6.out⟩⟩
            · rfl
            · have := R6.out.reads (by simp; omega)
              rwa [List.length_set, hll] at this
            · exact Nat.le_refl _
            · exact HB6.out
          | false =>
            rw [if_neg (by decide)] at h
            obtain ⟨q, hq, rfl⟩ := Option.map_eq_some_iff.1 h
            have HQ := Lib.hid (show partition_spec_most.f 3 b n p0 p1 p2 = some (q.1, q.2.1, q.2.2) from hq)
            clear h hq
            have H0 := Lib.hid (blk_drew G0.out)
            have H1 := Lib.hid (blk_drew G1.out)
            have R7 := Lib.hid (show RowL w5.drew g _ from blk_drew R6.out)
            go_wp2
            go_region_held3 (fun w' => w'.cell? ⟨w.heap.size, 0, none⟩ = some (.int .i64 3) ∧ w'.cell? ⟨w.heap.size, 1, none⟩ = some (.int .i64 b) ∧ w'.cell? ⟨w.heap.size, 2, none⟩ = some (.int .i64 n) ∧ w'.cell? ⟨w.heap.size + 1, 0, none⟩ = some (.int .i64 p0) ∧ w'.cell? ⟨w.heap.size + 1, 1, none⟩ = some (.int .i64 p1) ∧ w'.cell? ⟨w.heap.size + 1, 2, none⟩ = some (.string p2)) (first
              | (with_reducible exact KS.out _ G0.out G1.out)
              | (with_reducible exact KS.out _ H0.out H1.out)
              | (with_reducible exact KS.out _ J0.out J1.out)
              | (exact KS.out _ (RowL.far (x := ⟨0, true, ⟨p0, p1, p2⟩, ⟨q.1, q.2.1, q.2.2⟩, 0⟩) J0.out (by omega)) (RowL.far (x := ⟨0, true, ⟨p0, p1, p2⟩, ⟨q.1, q.2.1, q.2.2⟩, 0⟩) J1.out (by omega)))) (first
              | (go_at_call 84
                 refine (partition_spec_most.calls 3 b n p0 p1 p2 q.1 q.2.1 q.2.2 _ HQ.out).mono ?_
                 rintro e w6 ⟨rfl, hb6⟩
                 have J0 := Lib.hid (blk_below H0.out hb6)
                 have J1 := Lib.hid (blk_below H1.out hb6)
                 have R8 : RowL w6 g _ := blk_below R7.out hb6
                 have z0 : w6.cell? ⟨g, b.toNat * 9, none⟩ = some (.int .i64 1) := (R8.cell b.toNat 0 (by simp; omega) (by omega)).trans (by rw [HX.out]; rfl)
                 have y0 : w6.frozen? ⟨g, b.toNat * 9, none⟩ = false := blk_frozen R8 _
                 have z1 : w6.cell? ⟨g, b.toNat * 9 + 1, none⟩ = some (.bool false) := (R8.cell b.toNat 1 (by simp; omega) (by omega)).trans (by rw [HX.out]; rfl)
                 have y1 : w6.frozen? ⟨g, b.toNat * 9 + 1, none⟩ = false := blk_frozen R8 _
                 have z2 : w6.cell? ⟨g, b.toNat * 9 + 2, none⟩ = some (.int .i64 0) := (R8.cell b.toNat 2 (by simp; omega) (by omega)).trans (by rw [HX.out]; rfl)
                 have y2 : w6.frozen? ⟨g, b.toNat * 9 + 2, none⟩ = false := blk_frozen R8 _
                 have z3 : w6.cell? ⟨g, b.toNat * 9 + 3, none⟩ = some (.int .i64 0) := (R8.cell b.toNat 3 (by simp; omega) (by omega)).trans (by rw [HX.out]; rfl)
                 have y3 : w6.frozen? ⟨g, b.toNat * 9 + 3, none⟩ = false := blk_frozen R8 _
                 have z4 : w6.cell? ⟨g, b.toNat * 9 + 4, none⟩ = some (.string ⟨#[]⟩) := (R8.cell b.toNat 4 (by simp; omega) (by omega)).trans (by rw [HX.out]; rfl)
                 have y4 : w6.frozen? ⟨g, b.toNat * 9 + 4, none⟩ = false := blk_frozen R8 _
                 have z5 : w6.cell? ⟨g, b.toNat * 9 + 5, none⟩ = some (.int .i64 0) := (R8.cell b.toNat 5 (by simp; omega) (by omega)).trans (by rw [HX.out]; rfl)
                 have y5 : w6.frozen? ⟨g, b.toNat * 9 + 5, none⟩ = false := blk_frozen R8 _
                 have z6 : w6.cell? ⟨g, b.toNat * 9 + 6, none⟩ = some (.int .i64 0) := (R8.cell b.toNat 6 (by simp; omega) (by omega)).trans (by rw [HX.out]; rfl)
                 have y6 : w6.frozen? ⟨g, b.toNat * 9 + 6, none⟩ = false := blk_frozen R8 _
                 have z7 : w6.cell? ⟨g, b.toNat * 9 + 7, none⟩ = some (.string ⟨#[]⟩) := (R8.cell b.toNat 7 (by simp; omega) (by omega)).trans (by rw [HX.out]; rfl)
                 have y7 : w6.frozen? ⟨g, b.toNat * 9 + 7, none⟩ = false := blk_frozen R8 _
                 have z8 : w6.cell? ⟨g, b.toNat * 9 + 8, none⟩ = some (.int .i64 0) := (R8.cell b.toNat 8 (by simp; omega) (by omega)).trans (by rw [HX.out]; rfl)
                 have y8 : w6.frozen? ⟨g, b.toNat * 9 + 8, none⟩ = false := blk_frozen R8 _))
            all_goals
              have HB7 := below_then (below_drew1 HB6.out) HB6.out.size hb6
              have R9 := Lib.hid (R8.set b.toNat (by simp; omega) ⟨0, true, ⟨p0, p1, p2⟩, ⟨q.1, q.2.1, q.2.2⟩, 0⟩)
              have HB9 := Lib.hid (RowL.below (g := g) (i := b.toNat) (x := ⟨0, true, ⟨p0, p1, p2⟩, ⟨q.1, q.2.1, q.2.2⟩, 0⟩) HB7 (by omega))
              go_wp2
              refine bodyPost_ret (v := .tuple #[.slice (some ⟨g, 0, none⟩) l0.length l0.length, .int .i64 0]) (by simp [results, Tryz.results50, go_sem, *]) rfl ⟨some ⟨g, 0, none⟩, l0.length, ?_, ?_, ?_, ?_, HGW.out, Or.inr ⟨g, rfl, (by have := R9.out; rw [List.set_set] at this; exact this)⟩⟩
              · rfl
              · have := R9.out
                rw [List.set_set] at this
                have h2 := this.reads (by simp; omega)
                rwa [List.length_set, hll] at h2
              · exact Nat.le_refl _
              · exact HB9.out
end Go.Proofs.YteflfnjljjianaaGreatDoor.Qx
namespace Go.Proofs.YteflfnjljjianaaGreatDoor.Qx
open Go.RowKit Go.Proofs.YteflfnjljjianaaGreatDoorW.PrintWords Go.Proofs.YteflfnjljjianaaGreatDoorW.PrintLast Go.Proofs.YteflfnjljjianaaGreatDoorW.PrintMore
attribute [local go_sem] max2_int min2_int max_two min_two
set_option linter.unusedVariables false
set_option linter.unusedSimpArgs false
theorem C82_far {w : World} {A : Option Addr} {n : Nat} {xs : List S82} {p : Addr} (h : Kd.C k82 w A n xs) (hA : ∀ ad, A = some ad → ad.block ≠ p.block) (u : Value) : Kd.C k82 (w.setCell p u) A n xs := by
  obtain ⟨h1, h2, h3⟩ := h
  refine ⟨h1, h2, fun hne => ?_⟩
  obtain ⟨ad, e, h⟩ := h3 hne
  refine ⟨ad, e, fun j x hx => ?_⟩
  obtain ⟨c, hc, hK, hr⟩ := h j x hx
  refine ⟨c, hc, by obtain rfl := k82_open hK; exact k82_mk _ x, fun i v hv => ?_⟩
  rw [← hr i v hv]
  have hb : ∀ m, (ad.add m).block = ad.block := fun m => by unfold Addr.add; split <;> rfl
  refine World.cell?_of_block (w := w) (Below.heap_setCell w p u _ ?_)
  rw [hb]
  exact hA ad e
set_option maxRecDepth 100000 in
set_option maxHeartbeats 4000000 in
theorem chapmanlaw32_bounded.calls (k : Nat) (A0 : Option Addr) (c0 : Nat) (l0 : List S63) (a b n : Int) (p0 p1 : Int) (p2 : ByteArray) (L : List S82) (e0 : Int) (w : World) (hr : Kd.C k63 w A0 l0.length l0) (hc : l0.length ≤ c0) (hG : Laid w) (h : partition_Bounds.f k l0 a b n p0 p1 p2 = some (L, e0)) :
    Calls Tryz.prog 22 #[.slice A0 l0.length c0, .agg #[.int .i64 a, .int .i64 b, .int .i64 n], .agg #[.int .i64 p0, .int .i64 p1, .string p2]] w fun e w' => ∃ A c, e = .returned (.agg #[.slice A L.length c, .int .i64 e0]) ∧ Kd.C k82 w' A L.length L ∧ L.length ≤ c ∧ Below w.heap.size w w' ∧ LiesL w' A L := by
  have hu56 := Tryz.underlying56
  have HR := Lib.hid hr
  have HGl := Lib.hid hG
  have HH := Lib.hid h
  clear hr hG h
  go_enter Tryz.func22, Tryz.ntmps22
  go_wp2_with fail
  have B2 := heap_alloc_new ((w.alloc (.cells #[.int .i64 a, .int .i64 b, .int .i64 n] 27)).alloc (.cells #[.int .i64 p0, .int .i64 p1, .string p2] 35)) (.cells #[.slice none 0 0, .int .i64 0] 56)
  have hB := below_alloc (below_alloc (below_alloc (Below.refl w.heap.size w) (.cells #[.int .i64 a, .int .i64 b, .int .i64 n] 27)) (.cells #[.int .i64 p0, .int .i64 p1, .string p2] 35)) (.cells #[.slice none 0 0, .int .i64 0] 56)
  simp only [World.size_alloc] at B2
  generalize ((w.alloc (.cells #[.int .i64 a, .int .i64 b, .int .i64 n] 27)).alloc (.cells #[.int .i64 p0, .int .i64 p1, .string p2] 35)).alloc (.cells #[.slice none 0 0, .int .i64 0] 56) = W at *
  refine (partition_Bounds.calls k A0 c0 l0 a b n p0 p1 p2 L e0 W (Kd.C_below HR.out hB) hc (HGl.out.below hB) HH.out).mono ?_
  rintro e w2 ⟨AL, cL, rfl, hC, hcL, hb2, hAL, hLL⟩
  have hltW := blk_lt B2
  have hB2 := below_step hB hb2
  have E2 := blk_below B2 hb2
  have m0 : w2.cell? ⟨w.heap.size + 1 + 1, 0, none⟩ = some (.slice none 0 0) := (blk_cell E2 0).trans rfl
  have m1 : w2.cell? ⟨w.heap.size + 1 + 1, 1, none⟩ = some (.int .i64 0) := (blk_cell E2 1).trans rfl
  have f0 := blk_frozen E2 0
  have f1 := blk_frozen E2 1
  have hD : Below w2.heap.size w2 w2 := Below.refl _ _
  have HC := Lib.hid hC
  have HLL := Lib.hid hLL
  clear hLL
  have HB2 := Lib.hid hB2
  have EE := Lib.hid E2
  clear hB hb2 B2 hC hB2 E2 HR HGl HH
  go_wp2
  refine bodyPost_ret (v := .agg #[.slice AL L.length cL, .int .i64 e0]) (by simp [results, Tryz.results22, go_sem, *]) rfl ⟨AL, cL, rfl, ?_, hcL, ?_, ?_⟩
  · exact C82_far (C82_far HC.out (fun ad e => by have := hAL ad e; show ad.block ≠ w.heap.size + 1 + 1; omega) _) (fun ad e => by have := hAL ad e; show ad.block ≠ w.heap.size + 1 + 1; omega) _
  · repeat (with_reducible first | refine Below.drew ?_ | refine below_alloc ?_ _ | refine below_set ?_ (by omega))
    exact HB2.out
  · rcases HLL.out with h | ⟨g, e, h⟩
    · exact Or.inl h
    · have hne : g ≠ w.heap.size + 1 + 1 := by have := hAL _ e; simp only at this; omega
      exact Or.inr ⟨g, e, blk_far (blk_far h hne _) hne _⟩
end Go.Proofs.YteflfnjljjianaaGreatDoor.Qx
namespace Go.Proofs.YteflfnjljjianaaGreatDoor.Qx
open Go.RowKit Go.Proofs.YteflfnjljjianaaGreatDoorW.PrintWords Go.Proofs.YteflfnjljjianaaGreatDoorW.PrintLast Go.Proofs.YteflfnjljjianaaGreatDoorW.PrintMore
attribute [local go_sem] max2_int min2_int max_two min_two
set_option linter.unusedVariables false
set_option linter.unusedSimpArgs false
theorem eqA82 (d : Nat) (w : World) (x0 y0 : Int) (x1 y1 : Bool) (x2 y2 : Int) (x3 y3 : Int) (x4 y4 : ByteArray) (x5 y5 : Int) (x6 y6 : Int) (x7 y7 : ByteArray) (x8 y8 : Int) :
    (Op.equalIn (d + 3) 82 (.agg #[.int .i64 x0, .bool x1, .int .i64 x2, .int .i64 x3, .string x4, .int .i64 x5, .int .i64 x6, .string x7, .int .i64 x8]) (.agg #[.int .i64 y0, .bool y1, .int .i64 y2, .int .i64 y3, .string y4, .int .i64 y5, .int .i64 y6, .string y7, .int .i64 y8])).run Tryz.prog w = .ok (x0 == y0 && (x1 == y1 && ((x2 == y2 && (x3 == y3 && (x4.toList == y4.toList))) && ((x5 == y5 && (x6 == y6 && (x7.toList == y7.toList))) && (x8 == y8))))) w := by
  refine eqA_of Tryz.underlying82 (by kernel_rfl) ?_
  refine eqf_cons (by rfl) (by go_simp; rfl) (by go_simp; rfl) (by go_simp) ?_
  refine eqf_cons (by rfl) (by go_simp; rfl) (by go_simp; rfl) (by go_simp) ?_
  refine eqf_cons (by rfl) (by go_simp) (by go_simp) (eqA35 (d + 0) w _ _ _ _ _ _) ?_
  refine eqf_cons (by rfl) (by go_simp) (by go_simp) (eqA35 (d + 0) w _ _ _ _ _ _) ?_
  exact eqf_last (by rfl) (by go_simp; rfl) (by go_simp; rfl) (by go_simp)
end Go.Proofs.YteflfnjljjianaaGreatDoor.Qx
namespace Go.Proofs.YteflfnjljjianaaGreatDoor.Qx
open Go.RowKit Go.Proofs.YteflfnjljjianaaGreatDoorW.PrintWords Go.Proofs.YteflfnjljjianaaGreatDoorW.PrintLast Go.Proofs.YteflfnjljjianaaGreatDoorW.PrintMore
attribute [local go_sem] max2_int min2_int max_two min_two
set_option linter.unusedVariables false
set_option linter.unusedSimpArgs false
attribute [local go_sem high] eqA82
def chapmanref32_SameBounds.l0 : Nat → List (S82) → List (S82) → Int → Option (Bool)
  | 0, _, _, _ => none
  | k + 1, x0, x1, x5 => if x5 < (x0.length : Int) then (if 0 ≤ x5 then (if x5 < (x1.length : Int) then (if (!(((rd_T82 x0 x5).f0) == ((rd_T82 x1 x5).f0)) || (!(((rd_T82 x0 x5).f1) == ((rd_T82 x1 x5).f1)) || ((!(((rd_T82 x0 x5).f2.f0) == ((rd_T82 x1 x5).f2.f0)) || (!(((rd_T82 x0 x5).f2.f1) == ((rd_T82 x1 x5).f2.f1)) || (!((((rd_T82 x0 x5).f2.f2).toList) == (((rd_T82 x1 x5).f2.f2).toList))))) || ((!(((rd_T82 x0 x5).f3.f0) == ((rd_T82 x1 x5).f3.f0)) || (!(((rd_T82 x0 x5).f3.f1) == ((rd_T82 x1 x5).f3.f1)) || (!((((rd_T82 x0 x5).f3.f2).toList) == (((rd_T82 x1 x5).f3.f2).toList))))) || (!(((rd_T82 x0 x5).f4) == ((rd_T82 x1 x5).f4))))))) = true then (some false) else (chapmanref32_SameBounds.l0 k x0 x1 (wrap64 (x5 + 1)))) else (none)) else (none)) else (some true)
def chapmanref32_SameBounds.f (k : Nat) (l0 : List (S82)) (l1 : List (S82)) : Option (Bool) := if (l0.length : Int) = (l1.length : Int) then (chapmanref32_SameBounds.l0 k l0 l1 0) else (some false)
set_option maxHeartbeats 8000000 in
set_option maxRecDepth 100000 in
theorem chapmanref32_SameBounds.calls (k : Nat) (A0 : Option Addr) (c0 : Nat) (l0 : List (S82)) (A1 : Option Addr) (c1 : Nat) (l1 : List (S82)) (r : Bool) (w : World) (hr0 : Kd.C k82 w A0 l0.length l0) (hc0 : l0.length ≤ c0) (hr1 : Kd.C k82 w A1 l1.length l1) (hc1 : l1.length ≤ c1) (h : chapmanref32_SameBounds.f k l0 l1 = some r) :
    Calls Tryz.prog 26 #[.slice A0 l0.length c0, .slice A1 l1.length c1] w fun e w' => e = .returned (.bool r) ∧ Drawn0 w w' := by
  have hu82 := Tryz.underlying82
  have HR0 := Aside0.mk hr0
  have HC0 := Aside0.mk hc0
  clear hr0 hc0
  have HR1 := Aside0.mk hr1
  have HC1 := Aside0.mk hc1
  clear hr1 hc1
  have H : (if (l0.length : Int) = (l1.length : Int) then (chapmanref32_SameBounds.l0 k l0 l1 0) else (some false)) = some r := h
  clear h
  by_cases c3 : (l0.length : Int) = (l1.length : Int)
  · rw [if_pos c3] at H
    have c3b0 : ((l0.length : Int) == (l1.length : Int)) = true := beq_iff_eq.mpr c3
    have c3b1 : ((l0.length : Int) != (l1.length : Int)) = false := bne_eq_false_iff_eq.mpr c3
    have c3b2 : (l0.length == l1.length) = true := by first | simpa using c3 | (simp at c3 ⊢; omega)
    clear c3
    have H' := Aside0.mk H
    clear H
    go_enter Tryz.func26, Tryz.ntmps26
    go_wp2
    repeat (go_quiet (fail); try go_wp2)
    go_loopg [5] k (fun kq v5 w' => ∃ (x5_1 : Int), v5 = .int .i64 x5_1 ∧ Aside0 (chapmanref32_SameBounds.l0 kq l0 l1 x5_1 = some r) ∧ Aside0 (kq ≤ k) ∧ Drawn0 w w')
    case atStart => exact ⟨(0), (by first | rfl | (simp; done) | (simp [*]; done)), H', ⟨Nat.le_refl _⟩, by repeat (first | exact Drawn0.refl _ | apply Drawn0.step)⟩
    case round =>
      clear H'
      try clear c1
      try clear c2
      try clear p2
      try clear c3
      try clear c3b0
      try clear c3b1
      try clear c3b2
      obtain ⟨x5_1, rfl, HA, HK1, ⟨m1, rfl⟩⟩ := hrel
      cases gk with
      | zero => exact absurd HA.out (by simp [chapmanref32_SameBounds.l0])
      | succ k1 =>
        have H := HA.out
        clear HA
        simp only [chapmanref32_SameBounds.l0] at H
        by_cases c4 : x5_1 < (l0.length : Int)
        · rw [if_pos c4] at H
          have c4b0 : decide (x5_1 < (l0.length : Int)) = true := decide_eq_true c4
          clear c4
          by_cases c5 : 0 ≤ x5_1
          · rw [if_pos c5] at H
            have c5b0 : decide (0 ≤ x5_1) = true := decide_eq_true c5
            clear c5
            by_cases c6 : x5_1 < (l1.length : Int)
            · rw [if_pos c6] at H
              have c6b0 : decide (x5_1 < (l1.length : Int)) = true := decide_eq_true c6
              clear c6
              by_cases c7 : (!(((rd_T82 l0 x5_1).f0) == ((rd_T82 l1 x5_1).f0)) || (!(((rd_T82 l0 x5_1).f1) == ((rd_T82 l1 x5_1).f1)) || ((!(((rd_T82 l0 x5_1).f2.f0) == ((rd_T82 l1 x5_1).f2.f0)) || (!(((rd_T82 l0 x5_1).f2.f1) == ((rd_T82 l1 x5_1).f2.f1)) || (!((((rd_T82 l0 x5_1).f2.f2).toList) == (((rd_T82 l1 x5_1).f2.f2).toList))))) || ((!(((rd_T82 l0 x5_1).f3.f0) == ((rd_T82 l1 x5_1).f3.f0)) || (!(((rd_T82 l0 x5_1).f3.f1) == ((rd_T82 l1 x5_1).f3.f1)) || (!((((rd_T82 l0 x5_1).f3.f2).toList) == (((rd_T82 l1 x5_1).f3.f2).toList))))) || (!(((rd_T82 l0 x5_1).f4) == ((rd_T82 l1 x5_1).f4))))))) = true
              · rw [if_pos c7] at H
                have c7b0 : (!(((rd_T82 l0 x5_1).f0) == ((rd_T82 l1 x5_1).f0)) || (!(((rd_T82 l0 x5_1).f1) == ((rd_T82 l1 x5_1).f1)) || ((!(((rd_T82 l0 x5_1).f2.f0) == ((rd_T82 l1 x5_1).f2.f0)) || (!(((rd_T82 l0 x5_1).f2.f1) == ((rd_T82 l1 x5_1).f2.f1)) || (!((((rd_T82 l0 x5_1).f2.f2).toList) == (((rd_T82 l1 x5_1).f2.f2).toList))))) || ((!(((rd_T82 l0 x5_1).f3.f0) == ((rd_T82 l1 x5_1).f3.f0)) || (!(((rd_T82 l0 x5_1).f3.f1) == ((rd_T82 l1 x5_1).f3.f1)) || (!((((rd_T82 l0 x5_1).f3.f2).toList) == (((rd_T82 l1 x5_1).f3.f2).toList))))) || (!(((rd_T82 l0 x5_1).f4) == ((rd_T82 l1 x5_1).f4))))))) = true := c7
                clear c7
                obtain rfl := Option.some.inj H
                have p101 : 0 ≤ (x5_1 : Int) := of_decide_eq_true (by first | (with_reducible assumption) | assumption)
                have q101 : x5_1 < (l0.length : Int) := of_decide_eq_true (by first | (with_reducible assumption) | assumption)
                obtain ⟨ad101, e101, hx101_0, hx101_1, hx101_2, hx101_3, hx101_4, hx101_5, hx101_6, hx101_7, hx101_8⟩ := at_T82 HR0.out x5_1 p101 q101
                cases e101
                replace p101 := eq_true p101
                replace q101 := eq_true q101
                have p102 : 0 ≤ (x5_1 : Int) := of_decide_eq_true (by first | (with_reducible assumption) | assumption)
                have q102 : x5_1 < (l1.length : Int) := of_decide_eq_true (by first | (with_reducible assumption) | assumption)
                obtain ⟨ad102, e102, hx102_0, hx102_1, hx102_2, hx102_3, hx102_4, hx102_5, hx102_6, hx102_7, hx102_8⟩ := at_T82 HR1.out x5_1 p102 q102
                cases e102
                replace p102 := eq_true p102
                replace q102 := eq_true q102
                go_wp2
                repeat (go_quiet (fail); try go_wp2)
                go_ret
                exact ⟨by first | rfl | (simp; done) | (simp [*]; done), by repeat (first | exact Drawn0.refl _ | apply Drawn0.step)⟩
              · rw [if_neg c7] at H
                have c7b0 : (!(((rd_T82 l0 x5_1).f0) == ((rd_T82 l1 x5_1).f0)) || (!(((rd_T82 l0 x5_1).f1) == ((rd_T82 l1 x5_1).f1)) || ((!(((rd_T82 l0 x5_1).f2.f0) == ((rd_T82 l1 x5_1).f2.f0)) || (!(((rd_T82 l0 x5_1).f2.f1) == ((rd_T82 l1 x5_1).f2.f1)) || (!((((rd_T82 l0 x5_1).f2.f2).toList) == (((rd_T82 l1 x5_1).f2.f2).toList))))) || ((!(((rd_T82 l0 x5_1).f3.f0) == ((rd_T82 l1 x5_1).f3.f0)) || (!(((rd_T82 l0 x5_1).f3.f1) == ((rd_T82 l1 x5_1).f3.f1)) || (!((((rd_T82 l0 x5_1).f3.f2).toList) == (((rd_T82 l1 x5_1).f3.f2).toList))))) || (!(((rd_T82 l0 x5_1).f4) == ((rd_T82 l1 x5_1).f4))))))) = false := by simpa using c7
                clear c7
                have H' := Aside0.mk H
                clear H
                have p101 : 0 ≤ (x5_1 : Int) := of_decide_eq_true (by first | (with_reducible assumption) | assumption)
                have q101 : x5_1 < (l0.length : Int) := of_decide_eq_true (by first | (with_reducible assumption) | assumption)
                obtain ⟨ad101, e101, hx101_0, hx101_1, hx101_2, hx101_3, hx101_4, hx101_5, hx101_6, hx101_7, hx101_8⟩ := at_T82 HR0.out x5_1 p101 q101
                cases e101
                replace p101 := eq_true p101
                replace q101 := eq_true q101
                have p102 : 0 ≤ (x5_1 : Int) := of_decide_eq_true (by first | (with_reducible assumption) | assumption)
                have q102 : x5_1 < (l1.length : Int) := of_decide_eq_true (by first | (with_reducible assumption) | assumption)
                obtain ⟨ad102, e102, hx102_0, hx102_1, hx102_2, hx102_3, hx102_4, hx102_5, hx102_6, hx102_7, hx102_8⟩ := at_T82 HR1.out x5_1 p102 q102
                cases e102
                replace p102 := eq_true p102
                replace q102 := eq_true q102
                go_wp2
                repeat (go_quiet (fail); try go_wp2)
                go_roundg k1
                case measure => have := HK1.out; omega
                case rel => exact ⟨(wrap64 (x5_1 + 1)), (by first | rfl | (simp; done) | (simp [*]; done)), H', ⟨by have := HK1.out; omega⟩, by repeat (first | exact Drawn0.refl _ | apply Drawn0.step)⟩
            · rw [if_neg c6] at H
              exact absurd H (by simp)
          · rw [if_neg c5] at H
            exact absurd H (by simp)
        · rw [if_neg c4] at H
          have c4b0 : decide (x5_1 < (l0.length : Int)) = false := decide_eq_false c4
          clear c4
          obtain rfl := Option.some.inj H
          go_wp2
          repeat (go_quiet (fail); try go_wp2)
          go_ret
          exact ⟨by first | rfl | (simp; done) | (simp [*]; done), by repeat (first | exact Drawn0.refl _ | apply Drawn0.step)⟩
  · rw [if_neg c3] at H
    have c3b0 : ((l0.length : Int) == (l1.length : Int)) = false := beq_eq_false_iff_ne.mpr c3
    have c3b1 : ((l0.length : Int) != (l1.length : Int)) = true := bne_iff_ne.mpr c3
    have c3b2 : (l0.length == l1.length) = false := by first | simpa using c3 | (simp at c3 ⊢; omega)
    obtain rfl := Option.some.inj H
    go_enter Tryz.func26, Tryz.ntmps26
    go_wp2
    repeat (go_quiet (fail); try go_wp2)
    go_ret
    exact ⟨by first | rfl | (simp; done) | (simp [*]; done), by repeat (first | exact Drawn0.refl _ | apply Drawn0.step)⟩
end Go.Proofs.YteflfnjljjianaaGreatDoor.Qx
namespace Go.Proofs.YteflfnjljjianaaGreatDoor.Qx
open Go.RowKit
set_option linter.unusedSimpArgs false
set_option linter.unusedVariables false
theorem checkKey_step {P : Program} {b : Bool} {K : TypeId} {key : Value} {w : World} (n : Nat) (kd : TypeDesc) (hK : P.underlying K = some kd) (hs : kd = .bool ∨ ∃ k, kd = .int k) : (Instr.checkKey b (n + 1) K key).run P w = .ok () w := by
  rcases hs with rfl | ⟨k, rfl⟩
  · unfold Instr.checkKey
    simp [underlying, hK, go_sem]
  · unfold Instr.checkKey
    simp [underlying, hK, go_sem]
theorem mapPut {P : Program} {T K E : TypeId} (kd : TypeDesc) (hT : P.underlying T = some (.map K E)) (hK : P.underlying K = some kd) (hs : kd = .bool ∨ ∃ k, kd = .int k) (w : World) (g : Nat) (es : Array MapEntry) (clock : Nat) (key v : Value)
    (hg : w.heap[g]? = some (.map es clock)) (hf : Instr.findNow kd key es.toList 0 = some none) :
    (Instr.mapUpdate T (.map (some g)) key v).run P w = .ok () { w with heap := w.heap.setIfInBounds g (.map (es.push { key, val := v, born := clock }) (clock + 1)) } := by
  have hc : (Instr.checkKey false 10000 K key).run P w = .ok () w := checkKey_step 9999 kd hK hs
  unfold Instr.mapUpdate Instr.findKey
  simp [underlying, getObj, setObj, Sem.run, hT, hK, hg, hf, hc, go_sem]
theorem mapGet {P : Program} {T K E : TypeId} (kd : TypeDesc) (hT : P.underlying T = some (.map K E)) (hK : P.underlying K = some kd) (hs : kd = .bool ∨ ∃ k, kd = .int k) (w : World) (g : Nat) (es : Array MapEntry) (clock : Nat) (key v : Value) (i : Nat)
    (hg : w.heap[g]? = some (.map es clock)) (hf : Instr.findNow kd key es.toList 0 = some (some (i, v))) :
    (Instr.lookup T (.map (some g)) key false).run P w = .ok v w := by
  have hc : (Instr.checkKey es.isEmpty 10000 K key).run P w = .ok () w := checkKey_step 9999 kd hK hs
  unfold Instr.lookup Instr.findKey
  simp [underlying, getObj, setObj, Sem.run, hT, hK, hg, hf, hc, go_sem]
theorem mapMissOk {P : Program} {T K E : TypeId} (kd : TypeDesc) (hT : P.underlying T = some (.map K E)) (hK : P.underlying K = some kd) (hs : kd = .bool ∨ ∃ k, kd = .int k) (w : World) (g : Nat) (es : Array MapEntry) (clock : Nat) (key z : Value)
    (hz : ∀ w, (zeroValue E).run P w = .ok z w)
    (hg : w.heap[g]? = some (.map es clock)) (hf : Instr.findNow kd key es.toList 0 = some none) :
    (Instr.lookup T (.map (some g)) key true).run P w = .ok (.tuple #[z, .bool false]) w := by
  have hc : (Instr.checkKey es.isEmpty 10000 K key).run P w = .ok () w := checkKey_step 9999 kd hK hs
  unfold Instr.lookup Instr.findKey
  simp [underlying, getObj, setObj, Sem.run, hT, hK, hg, hf, hc, hz, go_sem]
end Go.Proofs.YteflfnjljjianaaGreatDoor.Qx
namespace Go.Proofs.YteflfnjljjianaaGreatDoor.Qx
open Go.RowKit Go.Proofs.YteflfnjljjianaaGreatDoorW.PrintWords Go.Proofs.YteflfnjljjianaaGreatDoorW.PrintLast Go.Proofs.YteflfnjljjianaaGreatDoorW.PrintMore
attribute [local go_sem] max2_int min2_int max_two min_two
set_option linter.unusedVariables false
set_option linter.unusedSimpArgs false
theorem alloc_setObj (w : World) (o o' : Obj) : ({ w.alloc o with heap := (w.alloc o).heap.setIfInBounds w.heap.size o' } : World) = w.alloc o' := by
  have h : (w.heap.push o).setIfInBounds w.heap.size o' = w.heap.push o' := by
    apply Array.ext_getElem?
    intro i
    rw [Array.getElem?_setIfInBounds, Array.getElem?_push, Array.getElem?_push, Array.size_push]
    by_cases c : w.heap.size = i
    · subst c
      simp
    · rw [if_neg c, if_neg (fun z => c z.symm), if_neg (fun z => c z.symm)]
  show ({ heap := (w.heap.push o).setIfInBounds w.heap.size o', tape := w.tape, drawn := w.drawn, os := w.os, output := w.output } : World) = _
  rw [h]
  rfl
def boolMap (g : Nat) (w : World) : Prop := w.heap[g]? = some (.map #[⟨.bool false, .agg #[.int .i64 1, .int .i64 0, .string ⟨#[]⟩], 0⟩, ⟨.bool true, .agg #[.int .i64 1, .int .i64 1, .string ⟨#[]⟩], 1⟩] 2)
def BoolsPost (w : World) (e : Ending) (w' : World) : Prop := ∃ g, e = .returned (.map (some g)) ∧ boolMap g w' ∧ w.heap.size ≤ g ∧ Below w.heap.size w w'
set_option maxHeartbeats 1000000 in
theorem bounds_bools.made (w : World) : Calls Tryz.prog 157 #[] w (BoolsPost w) := by
  have hu35 := Tryz.underlying35
  have hu200 := Tryz.underlying200
  have hu4 := Tryz.underlying4
  have hmm := @run_makeMap Tryz.prog
  have q1 : (Instr.mapUpdate 200 (.map (some w.heap.size)) (.bool false) (.agg #[.int .i64 1, .int .i64 0, .string ⟨#[]⟩])).run Tryz.prog (w.alloc (.map #[] 0)) = .ok () (w.alloc (.map #[⟨.bool false, .agg #[.int .i64 1, .int .i64 0, .string ⟨#[]⟩], 0⟩] 1)) := by
    rw [mapPut .bool Tryz.underlying200 Tryz.underlying4 (.inl rfl) _ _ #[] 0 _ _ (heap_alloc_new w _) rfl]
    rw [alloc_setObj]; rfl
  have q2 : (Instr.mapUpdate 200 (.map (some w.heap.size)) (.bool true) (.agg #[.int .i64 1, .int .i64 1, .string ⟨#[]⟩])).run Tryz.prog (w.alloc (.map #[⟨.bool false, .agg #[.int .i64 1, .int .i64 0, .string ⟨#[]⟩], 0⟩] 1)) = .ok () (w.alloc (.map #[⟨.bool false, .agg #[.int .i64 1, .int .i64 0, .string ⟨#[]⟩], 0⟩, ⟨.bool true, .agg #[.int .i64 1, .int .i64 1, .string ⟨#[]⟩], 1⟩] 2)) := by
    rw [mapPut .bool Tryz.underlying200 Tryz.underlying4 (.inl rfl) _ _ _ _ _ _ (heap_alloc_new w _) rfl]
    rw [alloc_setObj]; rfl
  go_enter Tryz.func157, Tryz.ntmps157
  go_wp2
  go_ret
  exact ⟨_, rfl, heap_alloc_new w _, Nat.le_refl _, (Below.refl _ w).alloc (Nat.le_refl _) _⟩
theorem boolMap.below {g : Nat} {w w' : World} (h : boolMap g w) (hb : Below w.heap.size w w') : boolMap g w' := (hb.block g (by obtain ⟨q, _⟩ := Array.getElem?_eq_some_iff.1 h; exact q)).trans h
theorem boolMap.f {g : Nat} {w : World} (h : boolMap g w) : (Instr.lookup 200 (.map (some g)) (.bool false) false).run Tryz.prog w = .ok (.agg #[.int .i64 1, .int .i64 0, .string ⟨#[]⟩]) w := mapGet .bool Tryz.underlying200 Tryz.underlying4 (.inl rfl) w g _ _ _ _ 0 h rfl
theorem boolMap.t {g : Nat} {w : World} (h : boolMap g w) : (Instr.lookup 200 (.map (some g)) (.bool true) false).run Tryz.prog w = .ok (.agg #[.int .i64 1, .int .i64 1, .string ⟨#[]⟩]) w := mapGet .bool Tryz.underlying200 Tryz.underlying4 (.inl rfl) w g _ _ _ _ 1 h rfl
end Go.Proofs.YteflfnjljjianaaGreatDoor.Qx
namespace Go.Proofs.YteflfnjljjianaaGreatDoor.Qx
open Go.RowKit Go.Proofs.YteflfnjljjianaaGreatDoorW.PrintWords Go.Proofs.YteflfnjljjianaaGreatDoorW.PrintLast Go.Proofs.YteflfnjljjianaaGreatDoorW.PrintMore
attribute [local go_sem] max2_int min2_int max_two min_two
set_option linter.unusedVariables false
set_option linter.unusedSimpArgs false
abbrev boolMapE : Array MapEntry := #[⟨.bool false, .agg #[.int .i64 1, .int .i64 0, .string ⟨#[]⟩], 0⟩, ⟨.bool true, .agg #[.int .i64 1, .int .i64 1, .string ⟨#[]⟩], 1⟩]
theorem lookF (g : Nat) : ∀ W : World, W.heap[g]? = some (.map boolMapE 2) → (Instr.lookup 200 (.map (some g)) (.bool false) false).run Tryz.prog W = .ok (.agg #[.int .i64 1, .int .i64 0, .string ⟨#[]⟩]) W := fun _ h => boolMap.f h
theorem lookT (g : Nat) : ∀ W : World, W.heap[g]? = some (.map boolMapE 2) → (Instr.lookup 200 (.map (some g)) (.bool true) false).run Tryz.prog W = .ok (.agg #[.int .i64 1, .int .i64 1, .string ⟨#[]⟩]) W := fun _ h => boolMap.t h
theorem setOther (B g : Nat) (h : g ≠ B) : ∀ (W : World) (i : Nat) (u : Value), (W.setCell ⟨B, i, none⟩ u).heap[g]? = W.heap[g]? := fun W i u => Below.heap_setCell W ⟨B, i, none⟩ u g h
set_option maxRecDepth 100000 in
set_option maxHeartbeats 4000000 in
theorem bounds_truth.tt (u : Bool) (w : World) :
    Calls Tryz.prog 198 #[.bool true, .bool true, .bool u] w fun e w' => e = .returned (.agg #[.bool u, .bool true, .int .i64 1, .int .i64 0, .string ⟨#[]⟩, .int .i64 1, .int .i64 1, .string ⟨#[]⟩]) ∧ Below w.heap.size w w' := by
  have hu161 := Tryz.underlying161
  have hu35 := Tryz.underlying35
  go_enter Tryz.func198, Tryz.ntmps198
  go_wp2
  have BK6 := heap_alloc_new w (.cells #[.bool false, .bool false, .int .i64 0, .int .i64 0, .string ⟨#[]⟩, .int .i64 0, .int .i64 0, .string ⟨#[]⟩] 161)
  have BK7 := heap_alloc_new (w.alloc (.cells #[.bool false, .bool false, .int .i64 0, .int .i64 0, .string ⟨#[]⟩, .int .i64 0, .int .i64 0, .string ⟨#[]⟩] 161)) (.cells #[.bool u, .bool true, .int .i64 0, .int .i64 0, .string ⟨#[]⟩, .int .i64 0, .int .i64 0, .string ⟨#[]⟩] 161)
  have BK6' := blk_alloc BK6 (.cells #[.bool u, .bool true, .int .i64 0, .int .i64 0, .string ⟨#[]⟩, .int .i64 0, .int .i64 0, .string ⟨#[]⟩] 161)
  have hB := Lib.hid (((Below.refl _ w).alloc (Nat.le_refl _) (.cells #[.bool false, .bool false, .int .i64 0, .int .i64 0, .string ⟨#[]⟩, .int .i64 0, .int .i64 0, .string ⟨#[]⟩] 161)).alloc (by simp only [World.size_alloc]; omega) (.cells #[.bool u, .bool true, .int .i64 0, .int .i64 0, .string ⟨#[]⟩, .int .i64 0, .int .i64 0, .string ⟨#[]⟩] 161))
  simp only [World.size_alloc] at BK7
  clear BK6
  generalize (w.alloc (.cells #[.bool false, .bool false, .int .i64 0, .int .i64 0, .string ⟨#[]⟩, .int .i64 0, .int .i64 0, .string ⟨#[]⟩] 161)).alloc (.cells #[.bool u, .bool true, .int .i64 0, .int .i64 0, .string ⟨#[]⟩, .int .i64 0, .int .i64 0, .string ⟨#[]⟩] 161) = W at *
  have lt6 : w.heap.size < W.heap.size := blk_lt BK6'
  have lt7 : w.heap.size + 1 < W.heap.size := blk_lt BK7
  go_region_with (first
    | (go_at_call 157
       refine (bounds_bools.made _).mono ?_
       rintro e w2 ⟨g2, rfl, hm2, hg2, hb2⟩
       have e1 : w2.heap[g1]? = some (.map boolMapE 2) := boolMap.below d1 hb2
       have e2 : w2.heap[g2]? = some (.map boolMapE 2) := hm2
       have f2 := lookF g2
       have t2 := lookT g2
       have s2 := setOther (w.heap.size + 1) g2 (by have h1 : W.heap.size ≤ w1.heap.size := hb1.size; omega)
       have K7 := blk_below B1 hb2
       have K6 := blk_below B6 hb2
       have z0 := blk_cell K7 0
       have x0 := blk_cell K6 0
       have v0 := blk_frozen K6 0
       have z1 := blk_cell K7 1
       have x1 := blk_cell K6 1
       have v1 := blk_frozen K6 1
       have z2 := blk_cell K7 2
       have x2 := blk_cell K6 2
       have v2 := blk_frozen K6 2
       have z3 := blk_cell K7 3
       have x3 := blk_cell K6 3
       have v3 := blk_frozen K6 3
       have z4 := blk_cell K7 4
       have x4 := blk_cell K6 4
       have v4 := blk_frozen K6 4
       have z5 := blk_cell K7 5
       have x5 := blk_cell K6 5
       have v5 := blk_frozen K6 5
       have z6 := blk_cell K7 6
       have x6 := blk_cell K6 6
       have v6 := blk_frozen K6 6
       have z7 := blk_cell K7 7
       have x7 := blk_cell K6 7
       have v7 := blk_frozen K6 7
       have y2 := blk_frozen K7 2
       have y3 := blk_frozen K7 3
       have y4 := blk_frozen K7 4
       have y5 := blk_frozen K7 5
       have y6 := blk_frozen K7 6
       have y7 := blk_frozen K7 7)
    | (go_at_call 157
       refine (bounds_bools.made _).mono ?_
       rintro e w1 ⟨g1, rfl, hm1, hg1, hb1⟩
       have d1 := hm1
       have e0 : w1.heap[g1]? = some (.map boolMapE 2) := hm1
       have f1 := lookF g1
       have t1 := lookT g1
       have s1 := setOther (w.heap.size + 1) g1 (by have h1 : W.heap.size ≤ g1 := hg1; omega)
       have B1 := blk_below (blk_drew BK7) hb1
       have B6 := blk_below (blk_drew BK6') hb1))
  all_goals
    have hE := Lib.hid (below_then hB.out hB.out.size (Below.trans (below_drew1 (Below.refl _ W)) (hb1.trans ⟨hb2.os, hb2.tape, hb2.output, hb2.size, fun i hi => hb2.block i (Nat.lt_of_lt_of_le hi hb1.size)⟩)))
    go_wp2
    refine bodyPost_ret (v := .agg #[.bool u, .bool true, .int .i64 1, .int .i64 0, .string ⟨#[]⟩, .int .i64 1, .int .i64 1, .string ⟨#[]⟩]) (by simp [results, Tryz.results198, go_sem, *]) rfl ⟨rfl, ?_⟩
    repeat (refine below_set ?_ (by first | exact Nat.le_refl _ | exact Nat.le_add_right _ _))
    exact hE.out
set_option maxRecDepth 100000 in
set_option maxHeartbeats 4000000 in
theorem bounds_truth.tf (u : Bool) (w : World) :
    Calls Tryz.prog 198 #[.bool true, .bool false, .bool u] w fun e w' => e = .returned (.agg #[.bool u, .bool true, .int .i64 1, .int .i64 0, .string ⟨#[]⟩, .int .i64 1, .int .i64 0, .string ⟨#[]⟩]) ∧ Below w.heap.size w w' := by
  have hu161 := Tryz.underlying161
  have hu35 := Tryz.underlying35
  go_enter Tryz.func198, Tryz.ntmps198
  go_wp2
  have BK6 := heap_alloc_new w (.cells #[.bool false, .bool false, .int .i64 0, .int .i64 0, .string ⟨#[]⟩, .int .i64 0, .int .i64 0, .string ⟨#[]⟩] 161)
  have BK7 := heap_alloc_new (w.alloc (.cells #[.bool false, .bool false, .int .i64 0, .int .i64 0, .string ⟨#[]⟩, .int .i64 0, .int .i64 0, .string ⟨#[]⟩] 161)) (.cells #[.bool u, .bool true, .int .i64 0, .int .i64 0, .string ⟨#[]⟩, .int .i64 0, .int .i64 0, .string ⟨#[]⟩] 161)
  have BK6' := blk_alloc BK6 (.cells #[.bool u, .bool true, .int .i64 0, .int .i64 0, .string ⟨#[]⟩, .int .i64 0, .int .i64 0, .string ⟨#[]⟩] 161)
  have hB := Lib.hid (((Below.refl _ w).alloc (Nat.le_refl _) (.cells #[.bool false, .bool false, .int .i64 0, .int .i64 0, .string ⟨#[]⟩, .int .i64 0, .int .i64 0, .string ⟨#[]⟩] 161)).alloc (by simp only [World.size_alloc]; omega) (.cells #[.bool u, .bool true, .int .i64 0, .int .i64 0, .string ⟨#[]⟩, .int .i64 0, .int .i64 0, .string ⟨#[]⟩] 161))
  simp only [World.size_alloc] at BK7
  clear BK6
  generalize (w.alloc (.cells #[.bool false, .bool false, .int .i64 0, .int .i64 0, .string ⟨#[]⟩, .int .i64 0, .int .i64 0, .string ⟨#[]⟩] 161)).alloc (.cells #[.bool u, .bool true, .int .i64 0, .int .i64 0, .string ⟨#[]⟩, .int .i64 0, .int .i64 0, .string ⟨#[]⟩] 161) = W at *
  have lt6 : w.heap.size < W.heap.size := blk_lt BK6'
  have lt7 : w.heap.size + 1 < W.heap.size := blk_lt BK7
  go_region_with (first
    | (go_at_call 157
       refine (bounds_bools.made _).mono ?_
       rintro e w2 ⟨g2, rfl, hm2, hg2, hb2⟩
       have e1 : w2.heap[g1]? = some (.map boolMapE 2) := boolMap.below d1 hb2
       have e2 : w2.heap[g2]? = some (.map boolMapE 2) := hm2
       have f2 := lookF g2
       have t2 := lookT g2
       have s2 := setOther (w.heap.size + 1) g2 (by have h1 : W.heap.size ≤ w1.heap.size := hb1.size; omega)
       have K7 := blk_below B1 hb2
       have K6 := blk_below B6 hb2
       have z0 := blk_cell K7 0
       have x0 := blk_cell K6 0
       have v0 := blk_frozen K6 0
       have z1 := blk_cell K7 1
       have x1 := blk_cell K6 1
       have v1 := blk_frozen K6 1
       have z2 := blk_cell K7 2
       have x2 := blk_cell K6 2
       have v2 := blk_frozen K6 2
       have z3 := blk_cell K7 3
       have x3 := blk_cell K6 3
       have v3 := blk_frozen K6 3
       have z4 := blk_cell K7 4
       have x4 := blk_cell K6 4
       have v4 := blk_frozen K6 4
       have z5 := blk_cell K7 5
       have x5 := blk_cell K6 5
       have v5 := blk_frozen K6 5
       have z6 := blk_cell K7 6
       have x6 := blk_cell K6 6
       have v6 := blk_frozen K6 6
       have z7 := blk_cell K7 7
       have x7 := blk_cell K6 7
       have v7 := blk_frozen K6 7
       have y2 := blk_frozen K7 2
       have y3 := blk_frozen K7 3
       have y4 := blk_frozen K7 4
       have y5 := blk_frozen K7 5
       have y6 := blk_frozen K7 6
       have y7 := blk_frozen K7 7)
    | (go_at_call 157
       refine (bounds_bools.made _).mono ?_
       rintro e w1 ⟨g1, rfl, hm1, hg1, hb1⟩
       have d1 := hm1
       have e0 : w1.heap[g1]? = some (.map boolMapE 2) := hm1
       have f1 := lookF g1
       have t1 := lookT g1
       have s1 := setOther (w.heap.size + 1) g1 (by have h1 : W.heap.size ≤ g1 := hg1; omega)
       have B1 := blk_below (blk_drew BK7) hb1
       have B6 := blk_below (blk_drew BK6') hb1))
  all_goals
    have hE := Lib.hid (below_then hB.out hB.out.size (Below.trans (below_drew1 (Below.refl _ W)) (hb1.trans ⟨hb2.os, hb2.tape, hb2.output, hb2.size, fun i hi => hb2.block i (Nat.lt_of_lt_of_le hi hb1.size)⟩)))
    go_wp2
    refine bodyPost_ret (v := .agg #[.bool u, .bool true, .int .i64 1, .int .i64 0, .string ⟨#[]⟩, .int .i64 1, .int .i64 0, .string ⟨#[]⟩]) (by simp [results, Tryz.results198, go_sem, *]) rfl ⟨rfl, ?_⟩
    repeat (refine below_set ?_ (by first | exact Nat.le_refl _ | exact Nat.le_add_right _ _))
    exact hE.out
set_option maxRecDepth 100000 in
set_option maxHeartbeats 4000000 in
theorem bounds_truth.ft (u : Bool) (w : World) :
    Calls Tryz.prog 198 #[.bool false, .bool true, .bool u] w fun e w' => e = .returned (.agg #[.bool u, .bool true, .int .i64 1, .int .i64 1, .string ⟨#[]⟩, .int .i64 1, .int .i64 1, .string ⟨#[]⟩]) ∧ Below w.heap.size w w' := by
  have hu161 := Tryz.underlying161
  have hu35 := Tryz.underlying35
  go_enter Tryz.func198, Tryz.ntmps198
  go_wp2
  have BK6 := heap_alloc_new w (.cells #[.bool false, .bool false, .int .i64 0, .int .i64 0, .string ⟨#[]⟩, .int .i64 0, .int .i64 0, .string ⟨#[]⟩] 161)
  have BK7 := heap_alloc_new (w.alloc (.cells #[.bool false, .bool false, .int .i64 0, .int .i64 0, .string ⟨#[]⟩, .int .i64 0, .int .i64 0, .string ⟨#[]⟩] 161)) (.cells #[.bool u, .bool true, .int .i64 0, .int .i64 0, .string ⟨#[]⟩, .int .i64 0, .int .i64 0, .string ⟨#[]⟩] 161)
  have BK6' := blk_alloc BK6 (.cells #[.bool u, .bool true, .int .i64 0, .int .i64 0, .string ⟨#[]⟩, .int .i64 0, .int .i64 0, .string ⟨#[]⟩] 161)
  have hB := Lib.hid (((Below.refl _ w).alloc (Nat.le_refl _) (.cells #[.bool false, .bool false, .int .i64 0, .int .i64 0, .string ⟨#[]⟩, .int .i64 0, .int .i64 0, .string ⟨#[]⟩] 161)).alloc (by simp only [World.size_alloc]; omega) (.cells #[.bool u, .bool true, .int .i64 0, .int .i64 0, .string ⟨#[]⟩, .int .i64 0, .int .i64 0, .string ⟨#[]⟩] 161))
  simp only [World.size_alloc] at BK7
  clear BK6
  generalize (w.alloc (.cells #[.bool false, .bool false, .int .i64 0, .int .i64 0, .string ⟨#[]⟩, .int .i64 0, .int .i64 0, .string ⟨#[]⟩] 161)).alloc (.cells #[.bool u, .bool true, .int .i64 0, .int .i64 0, .string ⟨#[]⟩, .int .i64 0, .int .i64 0, .string ⟨#[]⟩] 161) = W at *
  have lt6 : w.heap.size < W.heap.size := blk_lt BK6'
  have lt7 : w.heap.size + 1 < W.heap.size := blk_lt BK7
  go_region_with (first
    | (go_at_call 157
       refine (bounds_bools.made _).mono ?_
       rintro e w2 ⟨g2, rfl, hm2, hg2, hb2⟩
       have e1 : w2.heap[g1]? = some (.map boolMapE 2) := boolMap.below d1 hb2
       have e2 : w2.heap[g2]? = some (.map boolMapE 2) := hm2
       have f2 := lookF g2
       have t2 := lookT g2
       have s2 := setOther (w.heap.size + 1) g2 (by have h1 : W.heap.size ≤ w1.heap.size := hb1.size; omega)
       have K7 := blk_below B1 hb2
       have K6 := blk_below B6 hb2
       have z0 := blk_cell K7 0
       have x0 := blk_cell K6 0
       have v0 := blk_frozen K6 0
       have z1 := blk_cell K7 1
       have x1 := blk_cell K6 1
       have v1 := blk_frozen K6 1
       have z2 := blk_cell K7 2
       have x2 := blk_cell K6 2
       have v2 := blk_frozen K6 2
       have z3 := blk_cell K7 3
       have x3 := blk_cell K6 3
       have v3 := blk_frozen K6 3
       have z4 := blk_cell K7 4
       have x4 := blk_cell K6 4
       have v4 := blk_frozen K6 4
       have z5 := blk_cell K7 5
       have x5 := blk_cell K6 5
       have v5 := blk_frozen K6 5
       have z6 := blk_cell K7 6
       have x6 := blk_cell K6 6
       have v6 := blk_frozen K6 6
       have z7 := blk_cell K7 7
       have x7 := blk_cell K6 7
       have v7 := blk_frozen K6 7
       have y2 := blk_frozen K7 2
       have y3 := blk_frozen K7 3
       have y4 := blk_frozen K7 4
       have y5 := blk_frozen K7 5
       have y6 := blk_frozen K7 6
       have y7 := blk_frozen K7 7)
    | (go_at_call 157
       refine (bounds_bools.made _).mono ?_
       rintro e w1 ⟨g1, rfl, hm1, hg1, hb1⟩
       have d1 := hm1
       have e0 : w1.heap[g1]? = some (.map boolMapE 2) := hm1
       have f1 := lookF g1
       have t1 := lookT g1
       have s1 := setOther (w.heap.size + 1) g1 (by have h1 : W.heap.size ≤ g1 := hg1; omega)
       have B1 := blk_below (blk_drew BK7) hb1
       have B6 := blk_below (blk_drew BK6') hb1))
  all_goals
    have hE := Lib.hid (below_then hB.out hB.out.size (Below.trans (below_drew1 (Below.refl _ W)) (hb1.trans ⟨hb2.os, hb2.tape, hb2.output, hb2.size, fun i hi => hb2.block i (Nat.lt_of_lt_of_le hi hb1.size)⟩)))
    go_wp2
    refine bodyPost_ret (v := .agg #[.bool u, .bool true, .int .i64 1, .int .i64 1, .string ⟨#[]⟩, .int .i64 1, .int .i64 1, .string ⟨#[]⟩]) (by simp [results, Tryz.results198, go_sem, *]) rfl ⟨rfl, ?_⟩
    repeat (refine below_set ?_ (by first | exact Nat.le_refl _ | exact Nat.le_add_right _ _))
    exact hE.out
set_option maxRecDepth 100000 in
set_option maxHeartbeats 4000000 in
theorem bounds_truth.ff (u : Bool) (w : World) :
    Calls Tryz.prog 198 #[.bool false, .bool false, .bool u] w fun e w' => e = .returned (.agg #[.bool u, .bool false, .int .i64 0, .int .i64 0, .string ⟨#[]⟩, .int .i64 0, .int .i64 0, .string ⟨#[]⟩]) ∧ Below w.heap.size w w' := by
  have hu161 := Tryz.underlying161
  have hu35 := Tryz.underlying35
  go_enter Tryz.func198, Tryz.ntmps198
  go_wp2
  refine bodyPost_ret (v := .agg #[.bool u, .bool false, .int .i64 0, .int .i64 0, .string ⟨#[]⟩, .int .i64 0, .int .i64 0, .string ⟨#[]⟩]) (by simp [results, Tryz.results198, go_sem, *]) rfl ⟨rfl, ?_⟩
  first
    | exact ((Below.refl _ w).alloc (Nat.le_refl _) _).alloc (by simp only [World.size_alloc]; omega) _
    | (repeat (refine below_set ?_ (by first | exact Nat.le_refl _ | exact Nat.le_add_right _ _)); exact ((Below.refl _ w).alloc (Nat.le_refl _) _).alloc (by simp only [World.size_alloc]; omega) _)
def b2i (b : Bool) : Int := if b = true then 1 else 0
def bounds_truth.f (a0 a1 a2 : Bool) : Option (Bool × Bool × Int × Int × ByteArray × Int × Int × ByteArray) := if (a0 || a1) = true then some (a2, true, 1, b2i (!a0), ⟨#[]⟩, 1, b2i a1, ⟨#[]⟩) else some (a2, false, 0, 0, ⟨#[]⟩, 0, 0, ⟨#[]⟩)
theorem bounds_truth.calls (a0 a1 a2 : Bool) (r1 r2 : Bool) (r3 r4 : Int) (r5 : ByteArray) (r6 r7 : Int) (r8 : ByteArray) (w : World) (h : bounds_truth.f a0 a1 a2 = some (r1, r2, r3, r4, r5, r6, r7, r8)) :
    Calls Tryz.prog 198 #[.bool a0, .bool a1, .bool a2] w fun e w' => e = .returned (.agg #[.bool r1, .bool r2, .int .i64 r3, .int .i64 r4, .string r5, .int .i64 r6, .int .i64 r7, .string r8]) ∧ Below w.heap.size w w' := by
  cases a0 <;> cases a1 <;> simp [bounds_truth.f, b2i] at h <;> obtain ⟨rfl, rfl, rfl, rfl, rfl, rfl, rfl, rfl⟩ := h
  · exact bounds_truth.ff a2 w
  · exact bounds_truth.ft a2 w
  · exact bounds_truth.tf a2 w
  · exact bounds_truth.tt a2 w
end Go.Proofs.YteflfnjljjianaaGreatDoor.Qx
