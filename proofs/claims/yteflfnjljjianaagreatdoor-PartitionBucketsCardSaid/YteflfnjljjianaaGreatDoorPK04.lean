/- Part of a proof of PartitionBucketsCardSaid: functions of the given program and what they compute, each checked by the kernel. -/
import Derived.Test.YteflfnjljjianaaGreatDoorPK02
import Derived.Test.YteflfnjljjianaaGreatDoorPK03
namespace Go.Proofs.YteflfnjljjianaaGreatDoor.Qx
open Go.RowKit Go.Proofs.YteflfnjljjianaaGreatDoorW.PrintWords Go.Proofs.YteflfnjljjianaaGreatDoorW.PrintLast Go.Proofs.YteflfnjljjianaaGreatDoorW.PrintMore
attribute [local go_sem] max2_int min2_int max_two min_two
set_option linter.unusedVariables false
set_option linter.unusedSimpArgs false
def value_ValidType.f (a0_0 : Int) (a0_1 : Int) (a0_2 : Bool) : Option (Bool) := if a0_0 = 2 then (if a0_1 ≥ 0 then (some (decide (a0_1 ≤ 6))) else (some false)) else (if a0_0 = 1 then (some (a0_1 == 0)) else (if a0_0 = 3 then (some (a0_1 == 0)) else (some false)))
set_option maxHeartbeats 8000000 in
set_option maxRecDepth 100000 in
theorem value_ValidType.calls (a0_0 : Int) (a0_1 : Int) (a0_2 : Bool) (r : Bool) (w : World) (h : value_ValidType.f a0_0 a0_1 a0_2 = some r) :
    Calls Tryz.prog 43 #[.agg #[.int .i64 a0_0, .int .i64 a0_1, .bool a0_2]] w fun e w' => e = .returned (.bool r) ∧ Below w.heap.size w w' := by
  have hu63 := Tryz.underlying63
  have HB := Aside0.mk (Below.refl w.heap.size w)
  have H : (if a0_0 = 2 then (if a0_1 ≥ 0 then (some (decide (a0_1 ≤ 6))) else (some false)) else (if a0_0 = 1 then (some (a0_1 == 0)) else (if a0_0 = 3 then (some (a0_1 == 0)) else (some false)))) = some r := h
  clear h
  by_cases c2 : a0_0 = 2
  · rw [if_pos c2] at H
    have c2b0 : (a0_0 == 2) = true := beq_iff_eq.mpr c2
    have c2b1 : (a0_0 != 2) = false := bne_eq_false_iff_eq.mpr c2
    clear c2
    by_cases c3 : a0_1 ≥ 0
    · rw [if_pos c3] at H
      have c3b0 : decide (0 ≤ a0_1) = true := decide_eq_true c3
      clear c3
      obtain rfl := Option.some.inj H
      go_enter Tryz.func43, Tryz.ntmps43
      go_wp2_with (first | ((with_reducible refine gate_dst (N := 1) rfl ?_); refine box_event ?hg (N := 1) ?hd (cs := #[.int .i64 a0_0, .int .i64 a0_1, .bool a0_2]) (t := 63) ?hr ?_; (case hd => rfl); (case hg => rfl); (case hr => first | (go_simp; done) | (go_simp; rfl)); intro gb101 hg w4 hbox hb; have n0_ := Aside0.mk (below_step (by repeat (first | (with_reducible first | exact HB.out | apply below_alloc | apply pw_below_drewN | apply below_drew1) | exact HB.out)) hb); have n1_ := Aside0.mk (hbox); have n2_ := Aside0.mk ((by rw [hg]; exact (below_size (by repeat (first | (with_reducible first | exact HB.out | apply below_alloc | apply pw_below_drewN | apply below_drew1) | exact HB.out))) : w.heap.size ≤ gb101)); have n3_ := Aside0.mk ((by rw [hg]; exact (below_size (by repeat (first | (with_reducible first | exact HB.out | apply below_alloc | apply pw_below_drewN | apply below_drew1) | exact HB.out))) : w.heap.size ≤ gb101)); clear HB; have HB := n0_; have BK101 := n1_; have GW101 := n2_; have GE101 := n3_; clear n0_ n1_ n2_ n3_; clear hb hbox hg; have hcz5_0 : w4.cell? ⟨gb101, 0, none⟩ = some (.int .i64 a0_0) := (blk_cell BK101.out 0).trans rfl; have hcz5_1 : w4.cell? ⟨gb101, 1, none⟩ = some (.int .i64 a0_1) := (blk_cell BK101.out 1).trans rfl; have hcz5_2 : w4.cell? ⟨gb101, 2, none⟩ = some (.bool a0_2) := (blk_cell BK101.out 2).trans rfl; have hfz5_0 := blk_frozen BK101.out 0; have hfz5_1 := blk_frozen BK101.out 1; have hfz5_2 := blk_frozen BK101.out 2))
      go_ret
      exact ⟨by first | rfl | (simp [errW_none, errW_some] <;> rfl) | (simp [*, errW_none, errW_some] <;> rfl), by repeat (first | (with_reducible first | exact HB.out | apply below_alloc | apply pw_below_drewN | apply below_drew1 | refine below_set ?_ GE101.out) | exact HB.out)⟩
    · rw [if_neg c3] at H
      have c3b0 : decide (0 ≤ a0_1) = false := decide_eq_false c3
      clear c3
      obtain rfl := Option.some.inj H
      go_enter Tryz.func43, Tryz.ntmps43
      go_wp2_with (first | ((with_reducible refine gate_dst (N := 1) rfl ?_); refine box_event ?hg (N := 1) ?hd (cs := #[.int .i64 a0_0, .int .i64 a0_1, .bool a0_2]) (t := 63) ?hr ?_; (case hd => rfl); (case hg => rfl); (case hr => first | (go_simp; done) | (go_simp; rfl)); intro gb101 hg w6 hbox hb; have n0_ := Aside0.mk (below_step (by repeat (first | (with_reducible first | exact HB.out | apply below_alloc | apply pw_below_drewN | apply below_drew1) | exact HB.out)) hb); have n1_ := Aside0.mk (hbox); have n2_ := Aside0.mk ((by rw [hg]; exact (below_size (by repeat (first | (with_reducible first | exact HB.out | apply below_alloc | apply pw_below_drewN | apply below_drew1) | exact HB.out))) : w.heap.size ≤ gb101)); have n3_ := Aside0.mk ((by rw [hg]; exact (below_size (by repeat (first | (with_reducible first | exact HB.out | apply below_alloc | apply pw_below_drewN | apply below_drew1) | exact HB.out))) : w.heap.size ≤ gb101)); clear HB; have HB := n0_; have BK101 := n1_; have GW101 := n2_; have GE101 := n3_; clear n0_ n1_ n2_ n3_; clear hb hbox hg; have hcz7_0 : w6.cell? ⟨gb101, 0, none⟩ = some (.int .i64 a0_0) := (blk_cell BK101.out 0).trans rfl; have hcz7_1 : w6.cell? ⟨gb101, 1, none⟩ = some (.int .i64 a0_1) := (blk_cell BK101.out 1).trans rfl; have hcz7_2 : w6.cell? ⟨gb101, 2, none⟩ = some (.bool a0_2) := (blk_cell BK101.out 2).trans rfl; have hfz7_0 := blk_frozen BK101.out 0; have hfz7_1 := blk_frozen BK101.out 1; have hfz7_2 := blk_frozen BK101.out 2))
      go_ret
      exact ⟨by first | rfl | (simp [errW_none, errW_some] <;> rfl) | (simp [*, errW_none, errW_some] <;> rfl), by repeat (first | (with_reducible first | exact HB.out | apply below_alloc | apply pw_below_drewN | apply below_drew1 | refine below_set ?_ GE101.out) | exact HB.out)⟩
  · rw [if_neg c2] at H
    have c2b0 : (a0_0 == 2) = false := beq_eq_false_iff_ne.mpr c2
    have c2b1 : (a0_0 != 2) = true := bne_iff_ne.mpr c2
    by_cases c8 : a0_0 = 1
    · rw [if_pos c8] at H
      have c8b0 : (a0_0 == 1) = true := beq_iff_eq.mpr c8
      have c8b1 : (a0_0 != 1) = false := bne_eq_false_iff_eq.mpr c8
      clear c8
      obtain rfl := Option.some.inj H
      go_enter Tryz.func43, Tryz.ntmps43
      go_wp2_with (first | ((with_reducible refine gate_dst (N := 1) rfl ?_); refine box_event ?hg (N := 1) ?hd (cs := #[.int .i64 a0_0, .int .i64 a0_1, .bool a0_2]) (t := 63) ?hr ?_; (case hd => rfl); (case hg => rfl); (case hr => first | (go_simp; done) | (go_simp; rfl)); intro gb101 hg w9 hbox hb; have n0_ := Aside0.mk (below_step (by repeat (first | (with_reducible first | exact HB.out | apply below_alloc | apply pw_below_drewN | apply below_drew1) | exact HB.out)) hb); have n1_ := Aside0.mk (hbox); have n2_ := Aside0.mk ((by rw [hg]; exact (below_size (by repeat (first | (with_reducible first | exact HB.out | apply below_alloc | apply pw_below_drewN | apply below_drew1) | exact HB.out))) : w.heap.size ≤ gb101)); have n3_ := Aside0.mk ((by rw [hg]; exact (below_size (by repeat (first | (with_reducible first | exact HB.out | apply below_alloc | apply pw_below_drewN | apply below_drew1) | exact HB.out))) : w.heap.size ≤ gb101)); clear HB; have HB := n0_; have BK101 := n1_; have GW101 := n2_; have GE101 := n3_; clear n0_ n1_ n2_ n3_; clear hb hbox hg; have hcz10_0 : w9.cell? ⟨gb101, 0, none⟩ = some (.int .i64 a0_0) := (blk_cell BK101.out 0).trans rfl; have hcz10_1 : w9.cell? ⟨gb101, 1, none⟩ = some (.int .i64 a0_1) := (blk_cell BK101.out 1).trans rfl; have hcz10_2 : w9.cell? ⟨gb101, 2, none⟩ = some (.bool a0_2) := (blk_cell BK101.out 2).trans rfl; have hfz10_0 := blk_frozen BK101.out 0; have hfz10_1 := blk_frozen BK101.out 1; have hfz10_2 := blk_frozen BK101.out 2))
      go_ret
      exact ⟨by first | rfl | (simp [errW_none, errW_some] <;> rfl) | (simp [*, errW_none, errW_some] <;> rfl), by repeat (first | (with_reducible first | exact HB.out | apply below_alloc | apply pw_below_drewN | apply below_drew1 | refine below_set ?_ GE101.out) | exact HB.out)⟩
    · rw [if_neg c8] at H
      have c8b0 : (a0_0 == 1) = false := beq_eq_false_iff_ne.mpr c8
      have c8b1 : (a0_0 != 1) = true := bne_iff_ne.mpr c8
      by_cases c11 : a0_0 = 3
      · rw [if_pos c11] at H
        have c11b0 : (a0_0 == 3) = true := beq_iff_eq.mpr c11
        have c11b1 : (a0_0 != 3) = false := bne_eq_false_iff_eq.mpr c11
        clear c11
        obtain rfl := Option.some.inj H
        go_enter Tryz.func43, Tryz.ntmps43
        go_wp2_with (first | ((with_reducible refine gate_dst (N := 1) rfl ?_); refine box_event ?hg (N := 1) ?hd (cs := #[.int .i64 a0_0, .int .i64 a0_1, .bool a0_2]) (t := 63) ?hr ?_; (case hd => rfl); (case hg => rfl); (case hr => first | (go_simp; done) | (go_simp; rfl)); intro gb101 hg w12 hbox hb; have n0_ := Aside0.mk (below_step (by repeat (first | (with_reducible first | exact HB.out | apply below_alloc | apply pw_below_drewN | apply below_drew1) | exact HB.out)) hb); have n1_ := Aside0.mk (hbox); have n2_ := Aside0.mk ((by rw [hg]; exact (below_size (by repeat (first | (with_reducible first | exact HB.out | apply below_alloc | apply pw_below_drewN | apply below_drew1) | exact HB.out))) : w.heap.size ≤ gb101)); have n3_ := Aside0.mk ((by rw [hg]; exact (below_size (by repeat (first | (with_reducible first | exact HB.out | apply below_alloc | apply pw_below_drewN | apply below_drew1) | exact HB.out))) : w.heap.size ≤ gb101)); clear HB; have HB := n0_; have BK101 := n1_; have GW101 := n2_; have GE101 := n3_; clear n0_ n1_ n2_ n3_; clear hb hbox hg; have hcz13_0 : w12.cell? ⟨gb101, 0, none⟩ = some (.int .i64 a0_0) := (blk_cell BK101.out 0).trans rfl; have hcz13_1 : w12.cell? ⟨gb101, 1, none⟩ = some (.int .i64 a0_1) := (blk_cell BK101.out 1).trans rfl; have hcz13_2 : w12.cell? ⟨gb101, 2, none⟩ = some (.bool a0_2) := (blk_cell BK101.out 2).trans rfl; have hfz13_0 := blk_frozen BK101.out 0; have hfz13_1 := blk_frozen BK101.out 1; have hfz13_2 := blk_frozen BK101.out 2))
        go_ret
        exact ⟨by first | rfl | (simp [errW_none, errW_some] <;> rfl) | (simp [*, errW_none, errW_some] <;> rfl), by repeat (first | (with_reducible first | exact HB.out | apply below_alloc | apply pw_below_drewN | apply below_drew1 | refine below_set ?_ GE101.out) | exact HB.out)⟩
      · rw [if_neg c11] at H
        have c11b0 : (a0_0 == 3) = false := beq_eq_false_iff_ne.mpr c11
        have c11b1 : (a0_0 != 3) = true := bne_iff_ne.mpr c11
        obtain rfl := Option.some.inj H
        go_enter Tryz.func43, Tryz.ntmps43
        go_wp2_with (first | ((with_reducible refine gate_dst (N := 1) rfl ?_); refine box_event ?hg (N := 1) ?hd (cs := #[.int .i64 a0_0, .int .i64 a0_1, .bool a0_2]) (t := 63) ?hr ?_; (case hd => rfl); (case hg => rfl); (case hr => first | (go_simp; done) | (go_simp; rfl)); intro gb101 hg w14 hbox hb; have n0_ := Aside0.mk (below_step (by repeat (first | (with_reducible first | exact HB.out | apply below_alloc | apply pw_below_drewN | apply below_drew1) | exact HB.out)) hb); have n1_ := Aside0.mk (hbox); have n2_ := Aside0.mk ((by rw [hg]; exact (below_size (by repeat (first | (with_reducible first | exact HB.out | apply below_alloc | apply pw_below_drewN | apply below_drew1) | exact HB.out))) : w.heap.size ≤ gb101)); have n3_ := Aside0.mk ((by rw [hg]; exact (below_size (by repeat (first | (with_reducible first | exact HB.out | apply below_alloc | apply pw_below_drewN | apply below_drew1) | exact HB.out))) : w.heap.size ≤ gb101)); clear HB; have HB := n0_; have BK101 := n1_; have GW101 := n2_; have GE101 := n3_; clear n0_ n1_ n2_ n3_; clear hb hbox hg; have hcz15_0 : w14.cell? ⟨gb101, 0, none⟩ = some (.int .i64 a0_0) := (blk_cell BK101.out 0).trans rfl; have hcz15_1 : w14.cell? ⟨gb101, 1, none⟩ = some (.int .i64 a0_1) := (blk_cell BK101.out 1).trans rfl; have hcz15_2 : w14.cell? ⟨gb101, 2, none⟩ = some (.bool a0_2) := (blk_cell BK101.out 2).trans rfl; have hfz15_0 := blk_frozen BK101.out 0; have hfz15_1 := blk_frozen BK101.out 1; have hfz15_2 := blk_frozen BK101.out 2))
        go_ret
        exact ⟨by first | rfl | (simp [errW_none, errW_some] <;> rfl) | (simp [*, errW_none, errW_some] <;> rfl), by repeat (first | (with_reducible first | exact HB.out | apply below_alloc | apply pw_below_drewN | apply below_drew1 | refine below_set ?_ GE101.out) | exact HB.out)⟩
end Go.Proofs.YteflfnjljjianaaGreatDoor.Qx
namespace Go.Proofs.YteflfnjljjianaaGreatDoor.Qx
open Go.RowKit Go.Proofs.YteflfnjljjianaaGreatDoorW.PrintWords Go.Proofs.YteflfnjljjianaaGreatDoorW.PrintLast Go.Proofs.YteflfnjljjianaaGreatDoorW.PrintMore
attribute [local go_sem] max2_int min2_int max_two min_two
set_option linter.unusedVariables false
set_option linter.unusedSimpArgs false
def partition_Valid_1.f (a0_0 : Int) (a0_1 : Int) (a0_2 : Bool) : Option (Bool) := (value_ValidType.f a0_0 a0_1 a0_2).bind fun t102 => (some (!t102))
set_option maxHeartbeats 8000000 in
set_option maxRecDepth 100000 in
theorem partition_Valid_1.calls (a0_0 : Int) (a0_1 : Int) (a0_2 : Bool) (r : Bool) (w : World) (h : partition_Valid_1.f a0_0 a0_1 a0_2 = some r) :
    Calls Tryz.prog 42 #[.agg #[.int .i64 a0_0, .int .i64 a0_1, .bool a0_2]] w fun e w' => e = .returned (.bool r) ∧ Below w.heap.size w w' := by
  have hu63 := Tryz.underlying63
  have HB := Aside0.mk (Below.refl w.heap.size w)
  have H : ((value_ValidType.f a0_0 a0_1 a0_2).bind fun t102 => (some (!t102))) = some r := h
  clear h
  replace H := Option.bind_eq_some_iff.mp H
  obtain ⟨t102, A20, H⟩ := H
  replace H : (some (!t102)) = some r := H
  have A2 := Aside0.mk A20
  clear A20
  obtain rfl := Option.some.inj H
  go_enter Tryz.func42, Tryz.ntmps42
  go_wp2_with (first | ((with_reducible refine gate_dst (N := 1) rfl ?_); refine box_event ?hg (N := 1) ?hd (cs := #[.int .i64 a0_0, .int .i64 a0_1, .bool a0_2]) (t := 63) ?hr ?_; (case hd => rfl); (case hg => rfl); (case hr => first | (go_simp; done) | (go_simp; rfl)); intro gb101 hg w3 hbox hb; have n0_ := Aside0.mk (below_step (by repeat (first | (with_reducible first | exact HB.out | apply below_alloc | apply pw_below_drewN | apply below_drew1) | exact HB.out)) hb); have n1_ := Aside0.mk (hbox); have n2_ := Aside0.mk ((by rw [hg]; exact (below_size (by repeat (first | (with_reducible first | exact HB.out | apply below_alloc | apply pw_below_drewN | apply below_drew1) | exact HB.out))) : w.heap.size ≤ gb101)); have n3_ := Aside0.mk ((by rw [hg]; exact (below_size (by repeat (first | (with_reducible first | exact HB.out | apply below_alloc | apply pw_below_drewN | apply below_drew1) | exact HB.out))) : w.heap.size ≤ gb101)); clear HB; have HB := n0_; have BK101 := n1_; have GW101 := n2_; have GE101 := n3_; clear n0_ n1_ n2_ n3_; clear hb hbox hg; have hcz4_0 : w3.cell? ⟨gb101, 0, none⟩ = some (.int .i64 a0_0) := (blk_cell BK101.out 0).trans rfl; have hcz4_1 : w3.cell? ⟨gb101, 1, none⟩ = some (.int .i64 a0_1) := (blk_cell BK101.out 1).trans rfl; have hcz4_2 : w3.cell? ⟨gb101, 2, none⟩ = some (.bool a0_2) := (blk_cell BK101.out 2).trans rfl; have hfz4_0 := blk_frozen BK101.out 0; have hfz4_1 := blk_frozen BK101.out 1; have hfz4_2 := blk_frozen BK101.out 2) | ((with_reducible refine gate_callee (f := 43) rfl ?_); refine goesL_ (some 4) rfl rfl Tryz.func43 (by kernel_rfl) rfl #[.agg #[.int .i64 a0_0, .int .i64 a0_1, .bool a0_2]] rfl (by (try simp only [List.map_toArray, List.map_cons, List.map_nil]); first | done | rfl | (simp only [List.length_drop, List.length_take]; rfl)) ?_; (with_reducible refine (value_ValidType.calls a0_0 a0_1 a0_2 t102 _ A2.out).mono ?_); rintro e w5 ⟨rfl, hb⟩; refine ⟨_, rfl, ?_⟩; have n0_ := Aside0.mk (blk_below (g := gb101) (o := .cells #[.int .i64 a0_0, .int .i64 a0_1, .bool a0_2] 63 (0, 0)) (by (with_reducible repeat (first | refine blk_drewN ?_ _ | refine blk_drew ?_ | refine blk_alloc ?_ _)); exact BK101.out) hb); have n1_ := Aside0.mk (below_step (by repeat (first | (with_reducible first | exact HB.out | apply below_alloc | apply pw_below_drewN | apply below_drew1 | refine below_set ?_ GE101.out) | exact HB.out)) hb); clear BK101; clear HB; have BK101 := n0_; have HB := n1_; clear n0_ n1_; (try clear hb); (try clear hb2); (try clear hk); (try clear hi)))
  go_ret
  exact ⟨by first | rfl | (simp [errW_none, errW_some] <;> rfl) | (simp [*, errW_none, errW_some] <;> rfl), by repeat (first | (with_reducible first | exact HB.out | apply below_alloc | apply pw_below_drewN | apply below_drew1 | refine below_set ?_ GE101.out) | exact HB.out)⟩
end Go.Proofs.YteflfnjljjianaaGreatDoor.Qx
namespace Go.Proofs.YteflfnjljjianaaGreatDoor.Qx
open Go.RowKit Go.Proofs.YteflfnjljjianaaGreatDoorW.PrintWords Go.Proofs.YteflfnjljjianaaGreatDoorW.PrintLast Go.Proofs.YteflfnjljjianaaGreatDoorW.PrintMore
attribute [local go_sem] max2_int min2_int max_two min_two
set_option linter.unusedVariables false
set_option linter.unusedSimpArgs false
def badType (t : S63) : Bool := (partition_Valid_1.f t.f0 t.f1 t.f2).getD false
theorem badType_some (t : S63) : partition_Valid_1.f t.f0 t.f1 t.f2 = some (badType t) := by
  unfold badType
  have : ∃ b, partition_Valid_1.f t.f0 t.f1 t.f2 = some b := by
    unfold partition_Valid_1.f value_ValidType.f
    repeat' split
    all_goals exact ⟨_, rfl⟩
  obtain ⟨b, hb⟩ := this
  rw [hb]
  rfl
def FoundAt (l : List S63) (w : World) (e : Ending) (w' : World) : Prop := ∃ i : Int, e = .returned (.int .i64 i) ∧ decide (0 ≤ i) = l.any badType ∧ Below w.heap.size w w'
set_option maxRecDepth 100000 in
set_option maxHeartbeats 2000000 in
theorem IndexFunc_Type (A : Option Addr) (c : Nat) (l : List S63) (w : World) (hr : Kd.C k63 w A l.length l) (hl : l.length ≤ 9223372036854775807) :
    Calls Tryz.prog 74 #[.slice A l.length c, .func (.func 42) #[] #[]] w (FoundAt l w) := by
  have hu63 := Tryz.underlying63
  have HR := Lib.hid hr
  clear hr
  go_enter Tryz.func74, Tryz.ntmps74
  go_wp2
  go_loopw [8] (fun s8 wr => ∃ j : Nat, s8 = .int .i64 j ∧ j ≤ l.length ∧ (l.take j).any badType = false ∧ Below w.heap.size w wr) (fun s8 _ => l.length - (intOf s8).toNat)
  case atStart => exact ⟨0, rfl, Nat.zero_le _, rfl, Below.refl _ _⟩
  case round =>
    obtain ⟨j, rfl, hj, hany, hb⟩ := hrel
    have HA := Lib.hid hany
    have HB := Lib.hid hb
    clear hany hb
    by_cases hlt : j < l.length
    · obtain ⟨ad, e, x0, x1, x2⟩ := at_T63 HR.out (j : Int) (by omega) (by omega)
      have ht : (l.take (j + 1)).any badType = ((l.take j).any badType || badType (rd_T63 l j)) := by
        rw [List.take_succ_eq_append_getElem hlt, List.any_append]
        simp [rd_T63, List.getD_eq_getElem?_getD, List.getElem?_eq_getElem hlt]
      have HT := Lib.hid ht
      clear ht
      simp only [Int.toNat_natCast] at x0 x1 x2
      replace x0 := (HB.out.cell (World.block_lt_of_cell? w _ x0)).trans x0
      replace x1 := (HB.out.cell (World.block_lt_of_cell? w _ x1)).trans x1
      replace x2 := (HB.out.cell (World.block_lt_of_cell? w _ x2)).trans x2
      subst e
      have hd : decide ((j : Int) < (l.length : Int)) = true := decide_eq_true (by omega)
      have hi0 : (0 : Int) ≤ (j : Int) := by omega
      have hi1 : (j : Int) < (l.length : Int) := by omega
      have hq := badType_some (rd_T63 l j)
      have hcase : badType (rd_T63 l j) = true ∨ badType (rd_T63 l j) = false := by cases badType (rd_T63 l j) <;> simp
      generalize rd_T63 l (j : Int) = t at *
      generalize hbt : badType t = b at *
      have HQ := Lib.hid hq
      have HBT := Lib.hid hbt
      clear hq hbt
      rcases hcase with rfl | rfl
      · go_wp2_with (go_at_call 42; refine (partition_Valid_1.calls t.f0 t.f1 t.f2 true _ HQ.out).mono ?_; rintro e w1 ⟨rfl, hb1⟩)
        go_ret
        refine ⟨_, rfl, ?_, below_then HB.out HB.out.size hb1⟩
        rw [decide_eq_true hi0]
        have : (l.take (j + 1)).any badType = true := by rw [HT.out]; simp
        rw [← List.take_append_drop (j + 1) l, List.any_append, this]
        rfl
      · go_wp2_with (go_at_call 42; refine (partition_Valid_1.calls t.f0 t.f1 t.f2 false _ HQ.out).mono ?_; rintro e w1 ⟨rfl, hb1⟩)
        go_roundw
        case rel => exact ⟨j + 1, by go_num, by omega, by rw [HT.out, HA.out]; rfl, below_then HB.out HB.out.size hb1⟩
        case measure => simp [intOf]; omega
    · have hd : decide ((j : Int) < (l.length : Int)) = false := decide_eq_false (by omega)
      go_wp2
      go_ret
      refine ⟨_, rfl, ?_, HB.out⟩
      have : l.take j = l := List.take_of_length_le (by omega)
      rw [← this, HA.out]
      rfl
set_option maxRecDepth 100000 in
theorem ContainsFunc_Type (A : Option Addr) (c : Nat) (l : List S63) (w : World) (hr : Kd.C k63 w A l.length l) (hl : l.length ≤ 9223372036854775807) :
    Calls Tryz.prog 41 #[.slice A l.length c, .func (.func 42) #[] #[]] w fun e w' => e = .returned (.bool (l.any badType)) ∧ Below w.heap.size w w' := by
  have H := Lib.hid (IndexFunc_Type A c l w hr hl)
  clear hr
  go_enter Tryz.func41, Tryz.ntmps41
  go_wp2_with fail
  refine H.out.mono ?_
  rintro e w' ⟨i, rfl, hi, hb⟩
  have HI := Lib.hid hi
  clear hi
  go_wp2
  go_ret
  exact ⟨by simp [HI.out], hb⟩
end Go.Proofs.YteflfnjljjianaaGreatDoor.Qx
namespace Go.Proofs.YteflfnjljjianaaGreatDoor.Qx
open Go.RowKit Go.Proofs.YteflfnjljjianaaGreatDoorW.PrintWords Go.Proofs.YteflfnjljjianaaGreatDoorW.PrintLast Go.Proofs.YteflfnjljjianaaGreatDoorW.PrintMore
attribute [local go_sem] max2_int min2_int max_two min_two
set_option linter.unusedVariables false
set_option linter.unusedSimpArgs false
theorem eqA27 (d : Nat) (w : World) (x0 y0 : Int) (x1 y1 : Int) (x2 y2 : Int) :
    (Op.equalIn (d + 2) 27 (.agg #[.int .i64 x0, .int .i64 x1, .int .i64 x2]) (.agg #[.int .i64 y0, .int .i64 y1, .int .i64 y2])).run Tryz.prog w = .ok (x0 == y0 && (x1 == y1 && (x2 == y2))) w := by
  refine eqA_of Tryz.underlying27 (by kernel_rfl) ?_
  refine eqf_cons (by rfl) (by go_simp; rfl) (by go_simp; rfl) (by go_simp) ?_
  refine eqf_cons (by rfl) (by go_simp; rfl) (by go_simp; rfl) (by go_simp) ?_
  exact eqf_last (by rfl) (by go_simp; rfl) (by go_simp; rfl) (by go_simp)
attribute [local go_sem high] eqA27
def partition_Valid.kind (K : Int) (t : S63) (n : Int) : Option Bool := if K = 1 then partition_kinds_1.f t.f0 t.f1 t.f2 n else if K = 2 then partition_kinds_2.f t.f0 t.f1 t.f2 n else partition_truncates.f t.f0 t.f1 t.f2 n
def partition_Valid.f (l0 : List S63) (a1_0 a1_1 a1_2 : Int) : Option Bool :=
  if l0.length ≤ 9223372036854775807 then if l0.any badType = true then some false else if a1_0 = 0 then some (a1_1 == 0 && (a1_2 == 0)) else if 0 < a1_0 ∧ a1_0 < 4 ∧ 0 ≤ a1_1 ∧ a1_1 < (l0.length : Int) then partition_Valid.kind a1_0 (rd_T63 l0 a1_1) a1_2 else some false else none
set_option maxRecDepth 100000 in
set_option maxHeartbeats 4000000 in
theorem partition_Valid.bad (A0 : Option Addr) (c0 : Nat) (l0 : List S63) (a1_0 : Int) (a1_1 a1_2 : Int) (w : World) (hr : Kd.C k63 w A0 l0.length l0) (hl : l0.length ≤ 9223372036854775807) (ha : l0.any badType = true) :
    Calls Tryz.prog 13 #[.slice A0 l0.length c0, .agg #[.int .i64 a1_0, .int .i64 a1_1, .int .i64 a1_2]] w fun e w' => e = .returned (.bool false) ∧ Below w.heap.size w w' := by
  have hu27 := Tryz.underlying27
  have hu63 := Tryz.underlying63
  have HL := Lib.hid hl
  have HR := Lib.hid hr
  have HA := Lib.hid ha
  clear hl hr ha
  go_enter Tryz.func13, Tryz.ntmps13
  go_wp2_with fail
  have hb := Lib.hid ((Below.refl _ w).alloc (Nat.le_refl _) (.cells #[.int .i64 a1_0, .int .i64 a1_1, .int .i64 a1_2] 27))
  have k0_0 : (w.alloc (.cells #[.int .i64 a1_0, .int .i64 a1_1, .int .i64 a1_2] 27)).cell? ⟨w.heap.size, 0, none⟩ = some (.int .i64 a1_0) := by simp [go_sem]
  have k0_1 : (w.alloc (.cells #[.int .i64 a1_0, .int .i64 a1_1, .int .i64 a1_2] 27)).cell? ⟨w.heap.size, 1, none⟩ = some (.int .i64 a1_1) := by simp [go_sem]
  have k0_2 : (w.alloc (.cells #[.int .i64 a1_0, .int .i64 a1_1, .int .i64 a1_2] 27)).cell? ⟨w.heap.size, 2, none⟩ = some (.int .i64 a1_2) := by simp [go_sem]
  have lt0 : w.heap.size < (w.alloc (.cells #[.int .i64 a1_0, .int .i64 a1_1, .int .i64 a1_2] 27)).heap.size := by simp only [World.size_alloc]; omega
  generalize w.alloc (.cells #[.int .i64 a1_0, .int .i64 a1_1, .int .i64 a1_2] 27) = W at *
  clear lt0
  refine (ContainsFunc_Type A0 c0 l0 _ (Kd.C_below HR.out hb.out) HL.out).mono ?_
  rintro e W2 ⟨rfl, hb1⟩
  rw [HA.out]
  replace k0_0 := pw_cell_below hb1 k0_0
  replace k0_1 := pw_cell_below hb1 k0_1
  replace k0_2 := pw_cell_below hb1 k0_2
  have hB := Lib.hid (below_then hb.out hb.out.size hb1)
  clear hb hb1
  go_wp2
  go_ret
  exact ⟨rfl, hB.out⟩
set_option maxRecDepth 100000 in
set_option maxHeartbeats 4000000 in
theorem partition_Valid.zero (A0 : Option Addr) (c0 : Nat) (l0 : List S63) (a1_1 a1_2 : Int) (w : World) (hr : Kd.C k63 w A0 l0.length l0) (hl : l0.length ≤ 9223372036854775807) (ha : l0.any badType = false) :
    Calls Tryz.prog 13 #[.slice A0 l0.length c0, .agg #[.int .i64 0, .int .i64 a1_1, .int .i64 a1_2]] w fun e w' => e = .returned (.bool (a1_1 == 0 && (a1_2 == 0))) ∧ Below w.heap.size w w' := by
  have hu27 := Tryz.underlying27
  have hu63 := Tryz.underlying63
  have HL := Lib.hid hl
  have HR := Lib.hid hr
  have HA := Lib.hid ha
  clear hl hr ha
  go_enter Tryz.func13, Tryz.ntmps13
  go_wp2_with fail
  have hb := Lib.hid ((Below.refl _ w).alloc (Nat.le_refl _) (.cells #[.int .i64 0, .int .i64 a1_1, .int .i64 a1_2] 27))
  have k0_0 : (w.alloc (.cells #[.int .i64 0, .int .i64 a1_1, .int .i64 a1_2] 27)).cell? ⟨w.heap.size, 0, none⟩ = some (.int .i64 0) := by simp [go_sem]
  have k0_1 : (w.alloc (.cells #[.int .i64 0, .int .i64 a1_1, .int .i64 a1_2] 27)).cell? ⟨w.heap.size, 1, none⟩ = some (.int .i64 a1_1) := by simp [go_sem]
  have k0_2 : (w.alloc (.cells #[.int .i64 0, .int .i64 a1_1, .int .i64 a1_2] 27)).cell? ⟨w.heap.size, 2, none⟩ = some (.int .i64 a1_2) := by simp [go_sem]
  have lt0 : w.heap.size < (w.alloc (.cells #[.int .i64 0, .int .i64 a1_1, .int .i64 a1_2] 27)).heap.size := by simp only [World.size_alloc]; omega
  generalize w.alloc (.cells #[.int .i64 0, .int .i64 a1_1, .int .i64 a1_2] 27) = W at *
  clear lt0
  refine (ContainsFunc_Type A0 c0 l0 _ (Kd.C_below HR.out hb.out) HL.out).mono ?_
  rintro e W2 ⟨rfl, hb1⟩
  rw [HA.out]
  replace k0_0 := pw_cell_below hb1 k0_0
  replace k0_1 := pw_cell_below hb1 k0_1
  replace k0_2 := pw_cell_below hb1 k0_2
  have hB := Lib.hid (below_then hb.out hb.out.size hb1)
  clear hb hb1
  go_wp2
  go_ret
  exact ⟨by simp, hB.out⟩
set_option maxRecDepth 100000 in
set_option maxHeartbeats 4000000 in
theorem partition_Valid.neg (A0 : Option Addr) (c0 : Nat) (l0 : List S63) (a1_0 : Int) (a1_1 a1_2 : Int) (w : World) (hr : Kd.C k63 w A0 l0.length l0) (hl : l0.length ≤ 9223372036854775807) (ha : l0.any badType = false) (h0 : (a1_0 == 0) = false) (h1 : decide (0 < a1_0) = false) :
    Calls Tryz.prog 13 #[.slice A0 l0.length c0, .agg #[.int .i64 a1_0, .int .i64 a1_1, .int .i64 a1_2]] w fun e w' => e = .returned (.bool false) ∧ Below w.heap.size w w' := by
  have hu27 := Tryz.underlying27
  have hu63 := Tryz.underlying63
  have HL := Lib.hid hl
  have HR := Lib.hid hr
  have HA := Lib.hid ha
  clear hl hr ha
  go_enter Tryz.func13, Tryz.ntmps13
  go_wp2_with fail
  have hb := Lib.hid ((Below.refl _ w).alloc (Nat.le_refl _) (.cells #[.int .i64 a1_0, .int .i64 a1_1, .int .i64 a1_2] 27))
  have k0_0 : (w.alloc (.cells #[.int .i64 a1_0, .int .i64 a1_1, .int .i64 a1_2] 27)).cell? ⟨w.heap.size, 0, none⟩ = some (.int .i64 a1_0) := by simp [go_sem]
  have k0_1 : (w.alloc (.cells #[.int .i64 a1_0, .int .i64 a1_1, .int .i64 a1_2] 27)).cell? ⟨w.heap.size, 1, none⟩ = some (.int .i64 a1_1) := by simp [go_sem]
  have k0_2 : (w.alloc (.cells #[.int .i64 a1_0, .int .i64 a1_1, .int .i64 a1_2] 27)).cell? ⟨w.heap.size, 2, none⟩ = some (.int .i64 a1_2) := by simp [go_sem]
  have lt0 : w.heap.size < (w.alloc (.cells #[.int .i64 a1_0, .int .i64 a1_1, .int .i64 a1_2] 27)).heap.size := by simp only [World.size_alloc]; omega
  generalize w.alloc (.cells #[.int .i64 a1_0, .int .i64 a1_1, .int .i64 a1_2] 27) = W at *
  clear lt0
  refine (ContainsFunc_Type A0 c0 l0 _ (Kd.C_below HR.out hb.out) HL.out).mono ?_
  rintro e W2 ⟨rfl, hb1⟩
  rw [HA.out]
  replace k0_0 := pw_cell_below hb1 k0_0
  replace k0_1 := pw_cell_below hb1 k0_1
  replace k0_2 := pw_cell_below hb1 k0_2
  have hB := Lib.hid (below_then hb.out hb.out.size hb1)
  clear hb hb1
  go_wp2
  replace k0_0 := cell_regrown k0_0
  replace k0_1 := cell_regrown k0_1
  replace k0_2 := cell_regrown k0_2
  refine wp_region_quiet_below (by kernel_rfl) (by kernel_rfl) ?_
  repeat (first | go_big_quiet_step (first | exact Calls.regrown_of (partition_kinds.tab _)) | quiet_step (first | exact Calls.regrown_of (partition_kinds.tab _)))
  refine wpQuiet_nil ?_
  intro _ hw'
  obtain ⟨⟨dq, osq⟩, hw''⟩ := hw'
  subst hw''
  have hD := Lib.hid (below_regrown W2 dq osq)
  go_wp2
  go_ret
  exact ⟨rfl, below_then hB.out hB.out.size hD.out⟩
set_option maxRecDepth 100000 in
set_option maxHeartbeats 4000000 in
theorem partition_Valid.big (A0 : Option Addr) (c0 : Nat) (l0 : List S63) (a1_0 : Int) (a1_1 a1_2 : Int) (w : World) (hr : Kd.C k63 w A0 l0.length l0) (hl : l0.length ≤ 9223372036854775807) (ha : l0.any badType = false) (h0 : (a1_0 == 0) = false) (h1 : decide (0 < a1_0) = true) (h2 : decide (a1_0 < 4) = false) :
    Calls Tryz.prog 13 #[.slice A0 l0.length c0, .agg #[.int .i64 a1_0, .int .i64 a1_1, .int .i64 a1_2]] w fun e w' => e = .returned (.bool false) ∧ Below w.heap.size w w' := by
  have hu27 := Tryz.underlying27
  have hu63 := Tryz.underlying63
  have HL := Lib.hid hl
  have HR := Lib.hid hr
  have HA := Lib.hid ha
  clear hl hr ha
  go_enter Tryz.func13, Tryz.ntmps13
  go_wp2_with fail
  have hb := Lib.hid ((Below.refl _ w).alloc (Nat.le_refl _) (.cells #[.int .i64 a1_0, .int .i64 a1_1, .int .i64 a1_2] 27))
  have k0_0 : (w.alloc (.cells #[.int .i64 a1_0, .int .i64 a1_1, .int .i64 a1_2] 27)).cell? ⟨w.heap.size, 0, none⟩ = some (.int .i64 a1_0) := by simp [go_sem]
  have k0_1 : (w.alloc (.cells #[.int .i64 a1_0, .int .i64 a1_1, .int .i64 a1_2] 27)).cell? ⟨w.heap.size, 1, none⟩ = some (.int .i64 a1_1) := by simp [go_sem]
  have k0_2 : (w.alloc (.cells #[.int .i64 a1_0, .int .i64 a1_1, .int .i64 a1_2] 27)).cell? ⟨w.heap.size, 2, none⟩ = some (.int .i64 a1_2) := by simp [go_sem]
  have lt0 : w.heap.size < (w.alloc (.cells #[.int .i64 a1_0, .int .i64 a1_1, .int .i64 a1_2] 27)).heap.size := by simp only [World.size_alloc]; omega
  generalize w.alloc (.cells #[.int .i64 a1_0, .int .i64 a1_1, .int .i64 a1_2] 27) = W at *
  clear lt0
  refine (ContainsFunc_Type A0 c0 l0 _ (Kd.C_below HR.out hb.out) HL.out).mono ?_
  rintro e W2 ⟨rfl, hb1⟩
  rw [HA.out]
  replace k0_0 := pw_cell_below hb1 k0_0
  replace k0_1 := pw_cell_below hb1 k0_1
  replace k0_2 := pw_cell_below hb1 k0_2
  have hB := Lib.hid (below_then hb.out hb.out.size hb1)
  clear hb hb1
  go_wp2
  replace k0_0 := cell_regrown k0_0
  replace k0_1 := cell_regrown k0_1
  replace k0_2 := cell_regrown k0_2
  refine wp_region_quiet_below (by kernel_rfl) (by kernel_rfl) ?_
  repeat (first | go_big_quiet_step (first | exact Calls.regrown_of (partition_kinds.tab _)) | quiet_step (first | exact Calls.regrown_of (partition_kinds.tab _)))
  refine wpQuiet_nil ?_
  intro _ hw'
  obtain ⟨⟨dq, osq⟩, hw''⟩ := hw'
  subst hw''
  have hD := Lib.hid (below_regrown W2 dq osq)
  go_wp2
  go_ret
  exact ⟨rfl, below_then hB.out hB.out.size hD.out⟩
set_option maxRecDepth 100000 in
set_option maxHeartbeats 4000000 in
theorem partition_Valid.low (A0 : Option Addr) (c0 : Nat) (l0 : List S63) (a1_0 : Int) (a1_1 a1_2 : Int) (w : World) (hr : Kd.C k63 w A0 l0.length l0) (hl : l0.length ≤ 9223372036854775807) (ha : l0.any badType = false) (h0 : (a1_0 == 0) = false) (h1 : decide (0 < a1_0) = true) (h2 : decide (a1_0 < 4) = true) (h3 : decide (0 ≤ a1_1) = false) :
    Calls Tryz.prog 13 #[.slice A0 l0.length c0, .agg #[.int .i64 a1_0, .int .i64 a1_1, .int .i64 a1_2]] w fun e w' => e = .returned (.bool false) ∧ Below w.heap.size w w' := by
  have hu27 := Tryz.underlying27
  have hu63 := Tryz.underlying63
  have HL := Lib.hid hl
  have HR := Lib.hid hr
  have HA := Lib.hid ha
  clear hl hr ha
  go_enter Tryz.func13, Tryz.ntmps13
  go_wp2_with fail
  have hb := Lib.hid ((Below.refl _ w).alloc (Nat.le_refl _) (.cells #[.int .i64 a1_0, .int .i64 a1_1, .int .i64 a1_2] 27))
  have k0_0 : (w.alloc (.cells #[.int .i64 a1_0, .int .i64 a1_1, .int .i64 a1_2] 27)).cell? ⟨w.heap.size, 0, none⟩ = some (.int .i64 a1_0) := by simp [go_sem]
  have k0_1 : (w.alloc (.cells #[.int .i64 a1_0, .int .i64 a1_1, .int .i64 a1_2] 27)).cell? ⟨w.heap.size, 1, none⟩ = some (.int .i64 a1_1) := by simp [go_sem]
  have k0_2 : (w.alloc (.cells #[.int .i64 a1_0, .int .i64 a1_1, .int .i64 a1_2] 27)).cell? ⟨w.heap.size, 2, none⟩ = some (.int .i64 a1_2) := by simp [go_sem]
  have lt0 : w.heap.size < (w.alloc (.cells #[.int .i64 a1_0, .int .i64 a1_1, .int .i64 a1_2] 27)).heap.size := by simp only [World.size_alloc]; omega
  generalize w.alloc (.cells #[.int .i64 a1_0, .int .i64 a1_1, .int .i64 a1_2] 27) = W at *
  clear lt0
  refine (ContainsFunc_Type A0 c0 l0 _ (Kd.C_below HR.out hb.out) HL.out).mono ?_
  rintro e W2 ⟨rfl, hb1⟩
  rw [HA.out]
  replace k0_0 := pw_cell_below hb1 k0_0
  replace k0_1 := pw_cell_below hb1 k0_1
  replace k0_2 := pw_cell_below hb1 k0_2
  have hB := Lib.hid (below_then hb.out hb.out.size hb1)
  clear hb hb1
  go_wp2
  replace k0_0 := cell_regrown k0_0
  replace k0_1 := cell_regrown k0_1
  replace k0_2 := cell_regrown k0_2
  refine wp_region_quiet_below (by kernel_rfl) (by kernel_rfl) ?_
  repeat (first | go_big_quiet_step (first | exact Calls.regrown_of (partition_kinds.tab _)) | quiet_step (first | exact Calls.regrown_of (partition_kinds.tab _)))
  refine wpQuiet_nil ?_
  intro _ hw'
  obtain ⟨⟨dq, osq⟩, hw''⟩ := hw'
  subst hw''
  have hD := Lib.hid (below_regrown W2 dq osq)
  go_wp2
  go_ret
  exact ⟨rfl, below_then hB.out hB.out.size hD.out⟩
set_option maxRecDepth 100000 in
set_option maxHeartbeats 4000000 in
theorem partition_Valid.high (A0 : Option Addr) (c0 : Nat) (l0 : List S63) (a1_0 : Int) (a1_1 a1_2 : Int) (w : World) (hr : Kd.C k63 w A0 l0.length l0) (hl : l0.length ≤ 9223372036854775807) (ha : l0.any badType = false) (h0 : (a1_0 == 0) = false) (h1 : decide (0 < a1_0) = true) (h2 : decide (a1_0 < 4) = true) (h3 : decide (0 ≤ a1_1) = true) (h4 : decide (a1_1 < (l0.length : Int)) = false) :
    Calls Tryz.prog 13 #[.slice A0 l0.length c0, .agg #[.int .i64 a1_0, .int .i64 a1_1, .int .i64 a1_2]] w fun e w' => e = .returned (.bool false) ∧ Below w.heap.size w w' := by
  have hu27 := Tryz.underlying27
  have hu63 := Tryz.underlying63
  have HL := Lib.hid hl
  have HR := Lib.hid hr
  have HA := Lib.hid ha
  clear hl hr ha
  go_enter Tryz.func13, Tryz.ntmps13
  go_wp2_with fail
  have hb := Lib.hid ((Below.refl _ w).alloc (Nat.le_refl _) (.cells #[.int .i64 a1_0, .int .i64 a1_1, .int .i64 a1_2] 27))
  have k0_0 : (w.alloc (.cells #[.int .i64 a1_0, .int .i64 a1_1, .int .i64 a1_2] 27)).cell? ⟨w.heap.size, 0, none⟩ = some (.int .i64 a1_0) := by simp [go_sem]
  have k0_1 : (w.alloc (.cells #[.int .i64 a1_0, .int .i64 a1_1, .int .i64 a1_2] 27)).cell? ⟨w.heap.size, 1, none⟩ = some (.int .i64 a1_1) := by simp [go_sem]
  have k0_2 : (w.alloc (.cells #[.int .i64 a1_0, .int .i64 a1_1, .int .i64 a1_2] 27)).cell? ⟨w.heap.size, 2, none⟩ = some (.int .i64 a1_2) := by simp [go_sem]
  have lt0 : w.heap.size < (w.alloc (.cells #[.int .i64 a1_0, .int .i64 a1_1, .int .i64 a1_2] 27)).heap.size := by simp only [World.size_alloc]; omega
  generalize w.alloc (.cells #[.int .i64 a1_0, .int .i64 a1_1, .int .i64 a1_2] 27) = W at *
  clear lt0
  refine (ContainsFunc_Type A0 c0 l0 _ (Kd.C_below HR.out hb.out) HL.out).mono ?_
  rintro e W2 ⟨rfl, hb1⟩
  rw [HA.out]
  replace k0_0 := pw_cell_below hb1 k0_0
  replace k0_1 := pw_cell_below hb1 k0_1
  replace k0_2 := pw_cell_below hb1 k0_2
  have hB := Lib.hid (below_then hb.out hb.out.size hb1)
  clear hb hb1
  go_wp2
  replace k0_0 := cell_regrown k0_0
  replace k0_1 := cell_regrown k0_1
  replace k0_2 := cell_regrown k0_2
  refine wp_region_quiet_below (by kernel_rfl) (by kernel_rfl) ?_
  repeat (first | go_big_quiet_step (first | exact Calls.regrown_of (partition_kinds.tab _)) | quiet_step (first | exact Calls.regrown_of (partition_kinds.tab _)))
  refine wpQuiet_nil ?_
  intro _ hw'
  obtain ⟨⟨dq, osq⟩, hw''⟩ := hw'
  subst hw''
  have hD := Lib.hid (below_regrown W2 dq osq)
  go_wp2
  go_ret
  exact ⟨rfl, below_then hB.out hB.out.size hD.out⟩
set_option maxRecDepth 100000 in
set_option maxHeartbeats 4000000 in
theorem partition_Valid.case1 (A0 : Option Addr) (c0 : Nat) (l0 : List S63) (a1_1 a1_2 : Int) (w : World) (hr : Kd.C k63 w A0 l0.length l0) (hl : l0.length ≤ 9223372036854775807) (ha : l0.any badType = false) (h3 : decide (0 ≤ a1_1) = true) (h4 : decide (a1_1 < (l0.length : Int)) = true) (i0 : 0 ≤ a1_1) (i1 : a1_1 < (l0.length : Int)) (r : Bool) (hf : ∀ w, Calls Tryz.prog 75 #[.agg #[.int .i64 (rd_T63 l0 a1_1).f0, .int .i64 (rd_T63 l0 a1_1).f1, .bool (rd_T63 l0 a1_1).f2], .int .i64 a1_2] w fun e w' => e = .returned (.bool r) ∧ Below w.heap.size w w') :
    Calls Tryz.prog 13 #[.slice A0 l0.length c0, .agg #[.int .i64 1, .int .i64 a1_1, .int .i64 a1_2]] w fun e w' => e = .returned (.bool r) ∧ Below w.heap.size w w' := by
  have HF := Lib.hid hf
  clear hf
  obtain ⟨ad, e0, y0, y1, y2⟩ := at_T63 hr a1_1 i0 i1
  subst e0
  have Y0 := Lib.hid y0
  have Y1 := Lib.hid y1
  have Y2 := Lib.hid y2
  clear y0 y1 y2
  have hu27 := Tryz.underlying27
  have hu63 := Tryz.underlying63
  have HL := Lib.hid hl
  have HR := Lib.hid hr
  have HA := Lib.hid ha
  clear hl hr ha
  go_enter Tryz.func13, Tryz.ntmps13
  go_wp2_with fail
  have hb := Lib.hid ((Below.refl _ w).alloc (Nat.le_refl _) (.cells #[.int .i64 1, .int .i64 a1_1, .int .i64 a1_2] 27))
  have k0_0 : (w.alloc (.cells #[.int .i64 1, .int .i64 a1_1, .int .i64 a1_2] 27)).cell? ⟨w.heap.size, 0, none⟩ = some (.int .i64 1) := by simp [go_sem]
  have k0_1 : (w.alloc (.cells #[.int .i64 1, .int .i64 a1_1, .int .i64 a1_2] 27)).cell? ⟨w.heap.size, 1, none⟩ = some (.int .i64 a1_1) := by simp [go_sem]
  have k0_2 : (w.alloc (.cells #[.int .i64 1, .int .i64 a1_1, .int .i64 a1_2] 27)).cell? ⟨w.heap.size, 2, none⟩ = some (.int .i64 a1_2) := by simp [go_sem]
  have lt0 : w.heap.size < (w.alloc (.cells #[.int .i64 1, .int .i64 a1_1, .int .i64 a1_2] 27)).heap.size := by simp only [World.size_alloc]; omega
  generalize w.alloc (.cells #[.int .i64 1, .int .i64 a1_1, .int .i64 a1_2] 27) = W at *
  clear lt0
  refine (ContainsFunc_Type (some ad) c0 l0 _ (Kd.C_below HR.out hb.out) HL.out).mono ?_
  rintro e W2 ⟨rfl, hb1⟩
  rw [HA.out]
  replace k0_0 := pw_cell_below hb1 k0_0
  replace k0_1 := pw_cell_below hb1 k0_1
  replace k0_2 := pw_cell_below hb1 k0_2
  have hB := Lib.hid (below_then hb.out hb.out.size hb1)
  clear hb hb1
  have y0 := pw_cell_below hB.out Y0.out
  have y1 := pw_cell_below hB.out Y1.out
  have y2 := pw_cell_below hB.out Y2.out
  go_wp2
  generalize rd_T63 l0 a1_1 = t at *
  replace k0_0 := cell_regrown k0_0
  replace k0_1 := cell_regrown k0_1
  replace k0_2 := cell_regrown k0_2
  replace y0 := cell_regrown y0
  replace y1 := cell_regrown y1
  replace y2 := cell_regrown y2
  have z1 := partition_kinds.at1
  have z2 := partition_kinds.fld1_0
  refine wp_region_quiet_below (by kernel_rfl) (by kernel_rfl) ?_
  repeat (first | go_big_quiet_step (first | exact Calls.regrown_of (partition_kinds.tab _) | exact Calls.regrown_of (HF.out _)) | quiet_step (first | exact Calls.regrown_of (partition_kinds.tab _) | exact Calls.regrown_of (HF.out _)))
  refine wpQuiet_nil ?_
  intro _ hw'
  obtain ⟨⟨dq, osq⟩, hw''⟩ := hw'
  subst hw''
  have hD := Lib.hid (below_regrown W2 dq osq)
  go_wp2
  go_ret
  exact ⟨rfl, below_then hB.out hB.out.size hD.out⟩
set_option maxRecDepth 100000 in
set_option maxHeartbeats 4000000 in
theorem partition_Valid.case2 (A0 : Option Addr) (c0 : Nat) (l0 : List S63) (a1_1 a1_2 : Int) (w : World) (hr : Kd.C k63 w A0 l0.length l0) (hl : l0.length ≤ 9223372036854775807) (ha : l0.any badType = false) (h3 : decide (0 ≤ a1_1) = true) (h4 : decide (a1_1 < (l0.length : Int)) = true) (i0 : 0 ≤ a1_1) (i1 : a1_1 < (l0.length : Int)) (r : Bool) (hf : ∀ w, Calls Tryz.prog 78 #[.agg #[.int .i64 (rd_T63 l0 a1_1).f0, .int .i64 (rd_T63 l0 a1_1).f1, .bool (rd_T63 l0 a1_1).f2], .int .i64 a1_2] w fun e w' => e = .returned (.bool r) ∧ Below w.heap.size w w') :
    Calls Tryz.prog 13 #[.slice A0 l0.length c0, .agg #[.int .i64 2, .int .i64 a1_1, .int .i64 a1_2]] w fun e w' => e = .returned (.bool r) ∧ Below w.heap.size w w' := by
  have HF := Lib.hid hf
  clear hf
  obtain ⟨ad, e0, y0, y1, y2⟩ := at_T63 hr a1_1 i0 i1
  subst e0
  have Y0 := Lib.hid y0
  have Y1 := Lib.hid y1
  have Y2 := Lib.hid y2
  clear y0 y1 y2
  have hu27 := Tryz.underlying27
  have hu63 := Tryz.underlying63
  have HL := Lib.hid hl
  have HR := Lib.hid hr
  have HA := Lib.hid ha
  clear hl hr ha
  go_enter Tryz.func13, Tryz.ntmps13
  go_wp2_with fail
  have hb := Lib.hid ((Below.refl _ w).alloc (Nat.le_refl _) (.cells #[.int .i64 2, .int .i64 a1_1, .int .i64 a1_2] 27))
  have k0_0 : (w.alloc (.cells #[.int .i64 2, .int .i64 a1_1, .int .i64 a1_2] 27)).cell? ⟨w.heap.size, 0, none⟩ = some (.int .i64 2) := by simp [go_sem]
  have k0_1 : (w.alloc (.cells #[.int .i64 2, .int .i64 a1_1, .int .i64 a1_2] 27)).cell? ⟨w.heap.size, 1, none⟩ = some (.int .i64 a1_1) := by simp [go_sem]
  have k0_2 : (w.alloc (.cells #[.int .i64 2, .int .i64 a1_1, .int .i64 a1_2] 27)).cell? ⟨w.heap.size, 2, none⟩ = some (.int .i64 a1_2) := by simp [go_sem]
  have lt0 : w.heap.size < (w.alloc (.cells #[.int .i64 2, .int .i64 a1_1, .int .i64 a1_2] 27)).heap.size := by simp only [World.size_alloc]; omega
  generalize w.alloc (.cells #[.int .i64 2, .int .i64 a1_1, .int .i64 a1_2] 27) = W at *
  clear lt0
  refine (ContainsFunc_Type (some ad) c0 l0 _ (Kd.C_below HR.out hb.out) HL.out).mono ?_
  rintro e W2 ⟨rfl, hb1⟩
  rw [HA.out]
  replace k0_0 := pw_cell_below hb1 k0_0
  replace k0_1 := pw_cell_below hb1 k0_1
  replace k0_2 := pw_cell_below hb1 k0_2
  have hB := Lib.hid (below_then hb.out hb.out.size hb1)
  clear hb hb1
  have y0 := pw_cell_below hB.out Y0.out
  have y1 := pw_cell_below hB.out Y1.out
  have y2 := pw_cell_below hB.out Y2.out
  go_wp2
  generalize rd_T63 l0 a1_1 = t at *
  replace k0_0 := cell_regrown k0_0
  replace k0_1 := cell_regrown k0_1
  replace k0_2 := cell_regrown k0_2
  replace y0 := cell_regrown y0
  replace y1 := cell_regrown y1
  replace y2 := cell_regrown y2
  have z1 := partition_kinds.at2
  have z2 := partition_kinds.fld2_0
  refine wp_region_quiet_below (by kernel_rfl) (by kernel_rfl) ?_
  repeat (first | go_big_quiet_step (first | exact Calls.regrown_of (partition_kinds.tab _) | exact Calls.regrown_of (HF.out _)) | quiet_step (first | exact Calls.regrown_of (partition_kinds.tab _) | exact Calls.regrown_of (HF.out _)))
  refine wpQuiet_nil ?_
  intro _ hw'
  obtain ⟨⟨dq, osq⟩, hw''⟩ := hw'
  subst hw''
  have hD := Lib.hid (below_regrown W2 dq osq)
  go_wp2
  go_ret
  exact ⟨rfl, below_then hB.out hB.out.size hD.out⟩
set_option maxRecDepth 100000 in
set_option maxHeartbeats 4000000 in
theorem partition_Valid.case3 (A0 : Option Addr) (c0 : Nat) (l0 : List S63) (a1_1 a1_2 : Int) (w : World) (hr : Kd.C k63 w A0 l0.length l0) (hl : l0.length ≤ 9223372036854775807) (ha : l0.any badType = false) (h3 : decide (0 ≤ a1_1) = true) (h4 : decide (a1_1 < (l0.length : Int)) = true) (i0 : 0 ≤ a1_1) (i1 : a1_1 < (l0.length : Int)) (r : Bool) (hf : ∀ w, Calls Tryz.prog 81 #[.agg #[.int .i64 (rd_T63 l0 a1_1).f0, .int .i64 (rd_T63 l0 a1_1).f1, .bool (rd_T63 l0 a1_1).f2], .int .i64 a1_2] w fun e w' => e = .returned (.bool r) ∧ Below w.heap.size w w') :
    Calls Tryz.prog 13 #[.slice A0 l0.length c0, .agg #[.int .i64 3, .int .i64 a1_1, .int .i64 a1_2]] w fun e w' => e = .returned (.bool r) ∧ Below w.heap.size w w' := by
  have HF := Lib.hid hf
  clear hf
  obtain ⟨ad, e0, y0, y1, y2⟩ := at_T63 hr a1_1 i0 i1
  subst e0
  have Y0 := Lib.hid y0
  have Y1 := Lib.hid y1
  have Y2 := Lib.hid y2
  clear y0 y1 y2
  have hu27 := Tryz.underlying27
  have hu63 := Tryz.underlying63
  have HL := Lib.hid hl
  have HR := Lib.hid hr
  have HA := Lib.hid ha
  clear hl hr ha
  go_enter Tryz.func13, Tryz.ntmps13
  go_wp2_with fail
  have hb := Lib.hid ((Below.refl _ w).alloc (Nat.le_refl _) (.cells #[.int .i64 3, .int .i64 a1_1, .int .i64 a1_2] 27))
  have k0_0 : (w.alloc (.cells #[.int .i64 3, .int .i64 a1_1, .int .i64 a1_2] 27)).cell? ⟨w.heap.size, 0, none⟩ = some (.int .i64 3) := by simp [go_sem]
  have k0_1 : (w.alloc (.cells #[.int .i64 3, .int .i64 a1_1, .int .i64 a1_2] 27)).cell? ⟨w.heap.size, 1, none⟩ = some (.int .i64 a1_1) := by simp [go_sem]
  have k0_2 : (w.alloc (.cells #[.int .i64 3, .int .i64 a1_1, .int .i64 a1_2] 27)).cell? ⟨w.heap.size, 2, none⟩ = some (.int .i64 a1_2) := by simp [go_sem]
  have lt0 : w.heap.size < (w.alloc (.cells #[.int .i64 3, .int .i64 a1_1, .int .i64 a1_2] 27)).heap.size := by simp only [World.size_alloc]; omega
  generalize w.alloc (.cells #[.int .i64 3, .int .i64 a1_1, .int .i64 a1_2] 27) = W at *
  clear lt0
  refine (ContainsFunc_Type (some ad) c0 l0 _ (Kd.C_below HR.out hb.out) HL.out).mono ?_
  rintro e W2 ⟨rfl, hb1⟩
  rw [HA.out]
  replace k0_0 := pw_cell_below hb1 k0_0
  replace k0_1 := pw_cell_below hb1 k0_1
  replace k0_2 := pw_cell_below hb1 k0_2
  have hB := Lib.hid (below_then hb.out hb.out.size hb1)
  clear hb hb1
  have y0 := pw_cell_below hB.out Y0.out
  have y1 := pw_cell_below hB.out Y1.out
  have y2 := pw_cell_below hB.out Y2.out
  go_wp2
  generalize rd_T63 l0 a1_1 = t at *
  replace k0_0 := cell_regrown k0_0
  replace k0_1 := cell_regrown k0_1
  replace k0_2 := cell_regrown k0_2
  replace y0 := cell_regrown y0
  replace y1 := cell_regrown y1
  replace y2 := cell_regrown y2
  have z1 := partition_kinds.at3
  have z2 := partition_kinds.fld3_0
  refine wp_region_quiet_below (by kernel_rfl) (by kernel_rfl) ?_
  repeat (first | go_big_quiet_step (first | exact Calls.regrown_of (partition_kinds.tab _) | exact Calls.regrown_of (HF.out _)) | quiet_step (first | exact Calls.regrown_of (partition_kinds.tab _) | exact Calls.regrown_of (HF.out _)))
  refine wpQuiet_nil ?_
  intro _ hw'
  obtain ⟨⟨dq, osq⟩, hw''⟩ := hw'
  subst hw''
  have hD := Lib.hid (below_regrown W2 dq osq)
  go_wp2
  go_ret
  exact ⟨rfl, below_then hB.out hB.out.size hD.out⟩
theorem partition_Valid.calls (A0 : Option Addr) (c0 : Nat) (l0 : List S63) (a1_0 a1_1 a1_2 : Int) (r : Bool) (w : World) (hr : Kd.C k63 w A0 l0.length l0) (hc : l0.length ≤ c0) (h : partition_Valid.f l0 a1_0 a1_1 a1_2 = some r) :
    Calls Tryz.prog 13 #[.slice A0 l0.length c0, .agg #[.int .i64 a1_0, .int .i64 a1_1, .int .i64 a1_2]] w fun e w' => e = .returned (.bool r) ∧ Below w.heap.size w w' := by
  unfold partition_Valid.f at h
  by_cases hl : l0.length ≤ 9223372036854775807
  case neg => rw [if_neg hl] at h; exact absurd h (by simp)
  rw [if_pos hl] at h
  cases ha : l0.any badType with
  | true =>
    rw [ha, if_pos rfl] at h
    obtain rfl := Option.some.inj h
    exact partition_Valid.bad A0 c0 l0 _ _ _ w hr hl ha
  | false =>
    rw [ha, if_neg (by decide)] at h
    by_cases h0 : a1_0 = 0
    · subst h0
      rw [if_pos rfl] at h
      obtain rfl := Option.some.inj h
      exact partition_Valid.zero A0 c0 l0 _ _ w hr hl ha
    rw [if_neg h0] at h
    have b0 : (a1_0 == 0) = false := by simpa using h0
    by_cases h1 : 0 < a1_0
    · by_cases h2 : a1_0 < 4
      · by_cases h3 : 0 ≤ a1_1
        · by_cases h4 : a1_1 < (l0.length : Int)
          · rw [if_pos ⟨h1, h2, h3, h4⟩] at h
            unfold partition_Valid.kind at h
            by_cases k1 : a1_0 = 1
            · subst k1
              rw [if_pos rfl] at h
              exact partition_Valid.case1 A0 c0 l0 _ _ w hr hl ha (decide_eq_true h3) (decide_eq_true h4) h3 h4 r (fun w => partition_kinds_1.calls _ _ _ _ _ w h)
            rw [if_neg k1] at h
            by_cases k2 : a1_0 = 2
            · subst k2
              rw [if_pos rfl] at h
              exact partition_Valid.case2 A0 c0 l0 _ _ w hr hl ha (decide_eq_true h3) (decide_eq_true h4) h3 h4 r (fun w => partition_kinds_2.calls _ _ _ _ _ w h)
            rw [if_neg k2] at h
            obtain rfl : a1_0 = 3 := by omega
            exact partition_Valid.case3 A0 c0 l0 _ _ w hr hl ha (decide_eq_true h3) (decide_eq_true h4) h3 h4 r (fun w => partition_truncates.calls _ _ _ _ _ w h)
          · rw [if_neg (fun z => h4 z.2.2.2)] at h
            obtain rfl := Option.some.inj h
            exact partition_Valid.high A0 c0 l0 _ _ _ w hr hl ha b0 (decide_eq_true h1) (decide_eq_true h2) (decide_eq_true h3) (decide_eq_false h4)
        · rw [if_neg (fun z => h3 z.2.2.1)] at h
          obtain rfl := Option.some.inj h
          exact partition_Valid.low A0 c0 l0 _ _ _ w hr hl ha b0 (decide_eq_true h1) (decide_eq_true h2) (decide_eq_false h3)
      · rw [if_neg (fun z => h2 z.2.1)] at h
        obtain rfl := Option.some.inj h
        exact partition_Valid.big A0 c0 l0 _ _ _ w hr hl ha b0 (decide_eq_true h1) (decide_eq_false h2)
    · rw [if_neg (fun z => h1 z.1)] at h
      obtain rfl := Option.some.inj h
      exact partition_Valid.neg A0 c0 l0 _ _ _ w hr hl ha b0 (decide_eq_false h1)
end Go.Proofs.YteflfnjljjianaaGreatDoor.Qx
namespace Go.Proofs.YteflfnjljjianaaGreatDoor.Qx
open Go.RowKit Go.Proofs.YteflfnjljjianaaGreatDoorW.PrintWords Go.Proofs.YteflfnjljjianaaGreatDoorW.PrintLast Go.Proofs.YteflfnjljjianaaGreatDoorW.PrintMore
attribute [local go_sem] max2_int min2_int max_two min_two
set_option linter.unusedVariables false
set_option linter.unusedSimpArgs false
def chapmanref06_Num.f (a0 : Int) : Option (Int × Int × ByteArray) := some (2, a0, (⟨#[]⟩ : ByteArray))
set_option maxHeartbeats 8000000 in
set_option maxRecDepth 100000 in
theorem chapmanref06_Num.calls (a0 : Int) (r1 : Int) (r2 : Int) (r3 : ByteArray) (w : World) (h : chapmanref06_Num.f a0 = some (r1, r2, r3)) :
    Calls Tryz.prog 37 #[.int .i64 a0] w fun e w' => e = .returned (.agg #[.int .i64 r1, .int .i64 r2, .string r3]) ∧ Below w.heap.size w w' := by
  have hu35 := Tryz.underlying35
  have HB := Aside0.mk (Below.refl w.heap.size w)
  have H : (some (2, a0, (⟨#[]⟩ : ByteArray))) = some (r1, r2, r3) := h
  clear h
  simp only [Option.some.injEq, Prod.mk.injEq] at H
  obtain ⟨rfl, rfl, rfl⟩ := H
  go_enter Tryz.func37, Tryz.ntmps37
  go_wp2_with (first | ((with_reducible refine gate_dst (N := 2) rfl ?_); refine box_event ?hg (N := 2) ?hd (cs := #[.int .i64 0, .int .i64 0, .string (⟨#[]⟩ : ByteArray)]) (t := 35) ?hr ?_; (case hd => rfl); (case hg => rfl); (case hr => first | (go_simp; done) | (go_simp; rfl)); intro gb101 hg w2 hbox hb; have n0_ := Aside0.mk (below_step (by repeat (first | (with_reducible first | exact HB.out | apply below_alloc | apply pw_below_drewN | apply below_drew1) | exact HB.out)) hb); have n1_ := Aside0.mk (hbox); have n2_ := Aside0.mk ((by rw [hg]; exact (below_size (by repeat (first | (with_reducible first | exact HB.out | apply below_alloc | apply pw_below_drewN | apply below_drew1) | exact HB.out))) : w.heap.size ≤ gb101)); have n3_ := Aside0.mk ((by rw [hg]; exact (below_size (by repeat (first | (with_reducible first | exact HB.out | apply below_alloc | apply pw_below_drewN | apply below_drew1) | exact HB.out))) : w.heap.size ≤ gb101)); clear HB; have HB := n0_; have BK101 := n1_; have GW101 := n2_; have GE101 := n3_; clear n0_ n1_ n2_ n3_; clear hb hbox hg; have hcz3_0 : w2.cell? ⟨gb101, 0, none⟩ = some (.int .i64 0) := (blk_cell BK101.out 0).trans rfl; have hcz3_1 : w2.cell? ⟨gb101, 1, none⟩ = some (.int .i64 0) := (blk_cell BK101.out 1).trans rfl; have hcz3_2 : w2.cell? ⟨gb101, 2, none⟩ = some (.string (⟨#[]⟩ : ByteArray)) := (blk_cell BK101.out 2).trans rfl; have hfz3_0 := blk_frozen BK101.out 0; have hfz3_1 := blk_frozen BK101.out 1; have hfz3_2 := blk_frozen BK101.out 2))
  refine bodyPost_ret (results_cell_row rfl _ _ gb101 35 #[.int .i64 2, .int .i64 a0, .string (⟨#[]⟩ : ByteArray)] (0, 0) _ rfl (by (with_reducible repeat (first | refine blk_drewN ?_ _ | refine blk_drew ?_ | refine blk_alloc ?_ _)); refine blk_put (cs := #[.int .i64 2, .int .i64 a0, .string (⟨#[]⟩ : ByteArray)]) ?_ 2 _ rfl; (with_reducible repeat (first | refine blk_drewN ?_ _ | refine blk_drew ?_ | refine blk_alloc ?_ _)); refine blk_put (cs := #[.int .i64 2, .int .i64 0, .string (⟨#[]⟩ : ByteArray)]) ?_ 1 _ rfl; (with_reducible repeat (first | refine blk_drewN ?_ _ | refine blk_drew ?_ | refine blk_alloc ?_ _)); refine blk_put (cs := #[.int .i64 0, .int .i64 0, .string (⟨#[]⟩ : ByteArray)]) ?_ 0 _ rfl; (with_reducible repeat (first | refine blk_drewN ?_ _ | refine blk_drew ?_ | refine blk_alloc ?_ _)); exact BK101.out) Tryz.underlying35 rfl (by kernel_rfl)) rfl ?_
  exact ⟨by first | rfl | (simp [errW_none, errW_some] <;> rfl) | (simp [*, errW_none, errW_some] <;> rfl), by repeat (first | (with_reducible first | exact HB.out | apply below_alloc | apply pw_below_drewN | apply below_drew1 | refine below_set ?_ GE101.out) | exact HB.out)⟩
end Go.Proofs.YteflfnjljjianaaGreatDoor.Qx
namespace Go.Proofs.YteflfnjljjianaaGreatDoor.Qx
open Go.RowKit Go.Proofs.YteflfnjljjianaaGreatDoorW.PrintWords Go.Proofs.YteflfnjljjianaaGreatDoorW.PrintLast Go.Proofs.YteflfnjljjianaaGreatDoorW.PrintMore
attribute [local go_sem] max2_int min2_int max_two min_two
set_option linter.unusedVariables false
set_option linter.unusedSimpArgs false
def chapmanref06_Whole.f (a0 : Int) : Option (Int × Int × ByteArray) := (chapmanref06_Num.f (wrap64 (a0 * 1000000))).bind fun bt102 => (some (bt102.1, bt102.2.1, bt102.2.2))
set_option maxHeartbeats 8000000 in
set_option maxRecDepth 100000 in
theorem chapmanref06_Whole.calls (a0 : Int) (r1 : Int) (r2 : Int) (r3 : ByteArray) (w : World) (h : chapmanref06_Whole.f a0 = some (r1, r2, r3)) :
    Calls Tryz.prog 16 #[.int .i64 a0] w fun e w' => e = .returned (.agg #[.int .i64 r1, .int .i64 r2, .string r3]) ∧ Below w.heap.size w w' := by
  have hu35 := Tryz.underlying35
  have HB := Aside0.mk (Below.refl w.heap.size w)
  have H : ((chapmanref06_Num.f (wrap64 (a0 * 1000000))).bind fun bt102 => (some (bt102.1, bt102.2.1, bt102.2.2))) = some (r1, r2, r3) := h
  clear h
  replace H := Option.bind_eq_some_iff.mp H
  obtain ⟨⟨t102, t103, t104⟩, A20, H⟩ := H
  replace H : (some (t102, t103, t104)) = some (r1, r2, r3) := H
  have A2 := Aside0.mk A20
  clear A20
  simp only [Option.some.injEq, Prod.mk.injEq] at H
  obtain ⟨rfl, rfl, rfl⟩ := H
  go_enter Tryz.func16, Tryz.ntmps16
  go_wp2_with (first | ((with_reducible refine gate_dst (N := 2) rfl ?_); refine box_event ?hg (N := 2) ?hd (cs := #[.int .i64 0, .int .i64 0, .string (⟨#[]⟩ : ByteArray)]) (t := 35) ?hr ?_; (case hd => rfl); (case hg => rfl); (case hr => first | (go_simp; done) | (go_simp; rfl)); intro gb101 hg w3 hbox hb; have n0_ := Aside0.mk (below_step (by repeat (first | (with_reducible first | exact HB.out | apply below_alloc | apply pw_below_drewN | apply below_drew1) | exact HB.out)) hb); have n1_ := Aside0.mk (hbox); have n2_ := Aside0.mk ((by rw [hg]; exact (below_size (by repeat (first | (with_reducible first | exact HB.out | apply below_alloc | apply pw_below_drewN | apply below_drew1) | exact HB.out))) : w.heap.size ≤ gb101)); have n3_ := Aside0.mk ((by rw [hg]; exact (below_size (by repeat (first | (with_reducible first | exact HB.out | apply below_alloc | apply pw_below_drewN | apply below_drew1) | exact HB.out))) : w.heap.size ≤ gb101)); clear HB; have HB := n0_; have BK101 := n1_; have GW101 := n2_; have GE101 := n3_; clear n0_ n1_ n2_ n3_; clear hb hbox hg) | ((with_reducible refine gate_callee (f := 37) rfl ?_); refine goesL_ (some 5) rfl rfl Tryz.func37 (by kernel_rfl) rfl #[.int .i64 (wrap64 (a0 * 1000000))] rfl (by (try simp only [List.map_toArray, List.map_cons, List.map_nil]); first | done | rfl | (simp only [List.length_drop, List.length_take]; rfl)) ?_; (with_reducible refine (chapmanref06_Num.calls (wrap64 (a0 * 1000000)) t102 t103 t104 _ A2.out).mono ?_); rintro e w4 ⟨rfl, hb⟩; refine ⟨_, rfl, ?_⟩; have n0_ := Aside0.mk (blk_below (g := gb101) (o := .cells #[.int .i64 0, .int .i64 0, .string (⟨#[]⟩ : ByteArray)] 35 (0, 0)) (by (with_reducible repeat (first | refine blk_drewN ?_ _ | refine blk_drew ?_ | refine blk_alloc ?_ _)); exact BK101.out) hb); have n1_ := Aside0.mk (below_step (by repeat (first | (with_reducible first | exact HB.out | apply below_alloc | apply pw_below_drewN | apply below_drew1 | refine below_set ?_ GE101.out) | exact HB.out)) hb); clear BK101; clear HB; have BK101 := n0_; have HB := n1_; clear n0_ n1_; (try clear hb); (try clear hb2); (try clear hk); (try clear hi); have hcz5_0 : w4.cell? ⟨gb101, 0, none⟩ = some (.int .i64 0) := (blk_cell BK101.out 0).trans rfl; have hcz5_1 : w4.cell? ⟨gb101, 1, none⟩ = some (.int .i64 0) := (blk_cell BK101.out 1).trans rfl; have hcz5_2 : w4.cell? ⟨gb101, 2, none⟩ = some (.string (⟨#[]⟩ : ByteArray)) := (blk_cell BK101.out 2).trans rfl; have hfz5_0 := blk_frozen BK101.out 0; have hfz5_1 := blk_frozen BK101.out 1; have hfz5_2 := blk_frozen BK101.out 2))
  refine bodyPost_ret (results_cell_row rfl _ _ gb101 35 #[.int .i64 t102, .int .i64 t103, .string t104] (0, 0) _ rfl (by (with_reducible repeat (first | refine blk_drewN ?_ _ | refine blk_drew ?_ | refine blk_alloc ?_ _)); refine blk_put (cs := #[.int .i64 t102, .int .i64 t103, .string (⟨#[]⟩ : ByteArray)]) ?_ 2 _ rfl; (with_reducible repeat (first | refine blk_drewN ?_ _ | refine blk_drew ?_ | refine blk_alloc ?_ _)); refine blk_put (cs := #[.int .i64 t102, .int .i64 0, .string (⟨#[]⟩ : ByteArray)]) ?_ 1 _ rfl; (with_reducible repeat (first | refine blk_drewN ?_ _ | refine blk_drew ?_ | refine blk_alloc ?_ _)); refine blk_put (cs := #[.int .i64 0, .int .i64 0, .string (⟨#[]⟩ : ByteArray)]) ?_ 0 _ rfl; (with_reducible repeat (first | refine blk_drewN ?_ _ | refine blk_drew ?_ | refine blk_alloc ?_ _)); exact BK101.out) Tryz.underlying35 rfl (by kernel_rfl)) rfl ?_
  exact ⟨by first | rfl | (simp [errW_none, errW_some] <;> rfl) | (simp [*, errW_none, errW_some] <;> rfl), by repeat (first | (with_reducible first | exact HB.out | apply below_alloc | apply pw_below_drewN | apply below_drew1 | refine below_set ?_ GE101.out) | exact HB.out)⟩
end Go.Proofs.YteflfnjljjianaaGreatDoor.Qx
namespace Go.Proofs.YteflfnjljjianaaGreatDoor.Qx
open Go.RowKit Go.Proofs.YteflfnjljjianaaGreatDoorW.PrintWords Go.Proofs.YteflfnjljjianaaGreatDoorW.PrintLast Go.Proofs.YteflfnjljjianaaGreatDoorW.PrintMore
attribute [local go_sem] max2_int min2_int max_two min_two
set_option linter.unusedVariables false
set_option linter.unusedSimpArgs false
def chapmanref06_sign.f (a0 : Int) (a1 : Int) : Option (Int) := if a0 < a1 then (some (-1)) else (if a0 > a1 then (some 1) else (some 0))
set_option maxHeartbeats 8000000 in
set_option maxRecDepth 100000 in
theorem chapmanref06_sign.calls (a0 : Int) (a1 : Int) (r : Int) (w : World) (h : chapmanref06_sign.f a0 a1 = some r) :
    Calls Tryz.prog 66 #[.int .i64 a0, .int .i64 a1] w fun e w' => e = .returned (.int .i64 r) ∧ Drawn0 w w' := by
  have H : (if a0 < a1 then (some (-1)) else (if a0 > a1 then (some 1) else (some 0))) = some r := h
  clear h
  by_cases c3 : a0 < a1
  · rw [if_pos c3] at H
    have c3b0 : decide (a0 < a1) = true := decide_eq_true c3
    clear c3
    obtain rfl := Option.some.inj H
    go_enter Tryz.func66, Tryz.ntmps66
    go_wp2
    go_ret
    exact ⟨by first | rfl | (simp; done) | (simp [*]; done), by repeat (first | exact Drawn0.refl _ | apply Drawn0.step)⟩
  · rw [if_neg c3] at H
    have c3b0 : decide (a0 < a1) = false := decide_eq_false c3
    clear c3
    by_cases c4 : a0 > a1
    · rw [if_pos c4] at H
      have c4b0 : decide (a1 < a0) = true := decide_eq_true c4
      clear c4
      obtain rfl := Option.some.inj H
      go_enter Tryz.func66, Tryz.ntmps66
      go_wp2
      go_ret
      exact ⟨by first | rfl | (simp; done) | (simp [*]; done), by repeat (first | exact Drawn0.refl _ | apply Drawn0.step)⟩
    · rw [if_neg c4] at H
      have c4b0 : decide (a1 < a0) = false := decide_eq_false c4
      clear c4
      obtain rfl := Option.some.inj H
      go_enter Tryz.func66, Tryz.ntmps66
      go_wp2
      go_ret
      exact ⟨by first | rfl | (simp; done) | (simp [*]; done), by repeat (first | exact Drawn0.refl _ | apply Drawn0.step)⟩
end Go.Proofs.YteflfnjljjianaaGreatDoor.Qx
namespace Go.Proofs.YteflfnjljjianaaGreatDoor.Qx
open Go.RowKit Go.Proofs.YteflfnjljjianaaGreatDoorW.PrintWords Go.Proofs.YteflfnjljjianaaGreatDoorW.PrintLast Go.Proofs.YteflfnjljjianaaGreatDoorW.PrintMore
attribute [local go_sem] max2_int min2_int max_two min_two
set_option linter.unusedVariables false
set_option linter.unusedSimpArgs false
mutual
def chapmanref06_Strings.l0 : Nat → ByteArray → ByteArray → Int → Option (Int)
  | 0, _, _, _ => none
  | k + 1, x0, x1, x5 => if x5 < (x0.size : Int) then (chapmanref06_Strings.j1 k x0 x1 x5 (decide (x5 < (x1.size : Int)))) else (chapmanref06_Strings.j1 k x0 x1 x5 false)
def chapmanref06_Strings.j1 : Nat → ByteArray → ByteArray → Int → Bool → Option (Int)
  | 0, _, _, _, _ => none
  | k + 1, x0, x1, x5, x15 => if x15 = true then (if 0 ≤ x5 then (if x5 < (x0.size : Int) then (if x5 < (x1.size : Int) then (if (bt x0 x5) = (bt x1 x5) then (chapmanref06_Strings.l0 k x0 x1 (wrap64 (x5 + 1))) else ((chapmanref06_sign.f (wrap64 (bt x0 x5)) (wrap64 (bt x1 x5))).bind fun t101 => (some t101))) else (none)) else (none)) else (none)) else ((chapmanref06_sign.f (x0.size : Int) (x1.size : Int)).bind fun t102 => (some t102))
end
def chapmanref06_Strings.f (k : Nat) (a0 : ByteArray) (a1 : ByteArray) : Option (Int) := chapmanref06_Strings.l0 k a0 a1 0
set_option maxHeartbeats 8000000 in
set_option maxRecDepth 100000 in
theorem chapmanref06_Strings.calls (k : Nat) (a0 : ByteArray) (a1 : ByteArray) (r : Int) (w : World) (h : chapmanref06_Strings.f k a0 a1 = some r) :
    Calls Tryz.prog 67 #[.string a0, .string a1] w fun e w' => e = .returned (.int .i64 r) ∧ Drawn0 w w' := by
  have H : (chapmanref06_Strings.l0 k a0 a1 0) = some r := h
  clear h
  have H' := Aside0.mk H
  clear H
  go_enter Tryz.func67, Tryz.ntmps67
  go_wp2
  repeat (go_quiet (fail); try go_wp2)
  go_loopg [5] k (fun kq v5 w' => ∃ (x5_1 : Int), v5 = .int .i64 x5_1 ∧ Aside0 (chapmanref06_Strings.l0 kq a0 a1 x5_1 = some r) ∧ Aside0 (kq ≤ k) ∧ Drawn0 w w')
  case atStart => exact ⟨(0), (by first | rfl | (simp; done) | (simp [*]; done)), H', ⟨Nat.le_refl _⟩, by repeat (first | exact Drawn0.refl _ | apply Drawn0.step)⟩
  case round =>
    clear H'
    try clear p2
    obtain ⟨x5_1, rfl, HA, HK1, ⟨m1, rfl⟩⟩ := hrel
    cases gk with
    | zero => exact absurd HA.out (by simp [chapmanref06_Strings.l0])
    | succ k1 =>
      have H := HA.out
      clear HA
      simp only [chapmanref06_Strings.l0] at H
      have HC3 := Aside0.mk H
      clear H
      go_upto_region 2 with (fail)
      repeat (go_quiet (fail); go_upto_region 2 with (fail))
      go_cut [15] (fun v15 wc => ∃ (kq : Nat) (x15_2 : Bool), v15 = .bool x15_2 ∧ Aside0 (chapmanref06_Strings.j1 kq a0 a1 x5_1 x15_2 = some r) ∧ Aside0 (kq ≤ k1) ∧ Drawn0 w wc)
      case first =>
        have H := HC3.out
        clear HC3
        by_cases c4 : x5_1 < (a0.size : Int)
        · rw [if_pos c4] at H
          have c4b0 : decide (x5_1 < (a0.size : Int)) = true := decide_eq_true c4
          clear c4
          (first | rw [c4b0] | (simp only [i64_w, i32_w]; rw [c4b0]) | skip)
          have H' := Aside0.mk H
          clear H
          go_wp2
          repeat (go_quiet (fail); try go_wp2)
          go_meet
          case rel => exact ⟨_, (decide (x5_1 < (a1.size : Int))), (by first | rfl | (simp; done) | (simp [*]; done)), H', ⟨by have := HK1.out; first | omega | exact Nat.le_refl _⟩, by repeat (first | exact Drawn0.refl _ | apply Drawn0.step)⟩
        · rw [if_neg c4] at H
          have c4b0 : decide (x5_1 < (a0.size : Int)) = false := decide_eq_false c4
          clear c4
          (first | rw [c4b0] | (simp only [i64_w, i32_w]; rw [c4b0]) | skip)
          have H' := Aside0.mk H
          clear H
          go_wp2
          repeat (go_quiet (fail); try go_wp2)
          go_meet
          case rel => exact ⟨_, (false), (by first | rfl | (simp; done) | (simp [*]; done)), H', ⟨by have := HK1.out; first | omega | exact Nat.le_refl _⟩, by repeat (first | exact Drawn0.refl _ | apply Drawn0.step)⟩
      case rest =>
        clear HC3
        try clear p2
        try clear c4
        try clear c4b0
        try clear p2
        obtain ⟨kq, x15_2, rfl, HA, HJ2, ⟨mc2, rfl⟩⟩ := hcut
        cases kq with
        | zero => exact absurd HA.out (by simp [chapmanref06_Strings.j1])
        | succ kj2 =>
          have H := HA.out
          clear HA
          simp only [chapmanref06_Strings.j1] at H
          by_cases c5 : x15_2 = true
          · subst c5
            have H1 : (if 0 ≤ x5_1 then (if x5_1 < (a0.size : Int) then (if x5_1 < (a1.size : Int) then (if (bt a0 x5_1) = (bt a1 x5_1) then (chapmanref06_Strings.l0 kj2 a0 a1 (wrap64 (x5_1 + 1))) else ((chapmanref06_sign.f (wrap64 (bt a0 x5_1)) (wrap64 (bt a1 x5_1))).bind fun t101 => (some t101))) else (none)) else (none)) else (none)) = some r := by rw [if_pos rfl] at H; exact H
            clear H
            have H := H1
            clear H1
            by_cases c6 : 0 ≤ x5_1
            · rw [if_pos c6] at H
              have c6b0 : decide (0 ≤ x5_1) = true := decide_eq_true c6
              clear c6
              by_cases c7 : x5_1 < (a0.size : Int)
              · rw [if_pos c7] at H
                have c7b0 : decide (x5_1 < (a0.size : Int)) = true := decide_eq_true c7
                clear c7
                by_cases c9 : x5_1 < (a1.size : Int)
                · rw [if_pos c9] at H
                  have c9b0 : decide (x5_1 < (a1.size : Int)) = true := decide_eq_true c9
                  clear c9
                  by_cases c11 : (bt a0 x5_1) = (bt a1 x5_1)
                  · rw [if_pos c11] at H
                    have c11b0 : ((bt a0 x5_1) == (bt a1 x5_1)) = true := beq_iff_eq.mpr c11
                    have c11b1 : ((bt a0 x5_1) != (bt a1 x5_1)) = false := bne_eq_false_iff_eq.mpr c11
                    clear c11
                    have H' := Aside0.mk H
                    clear H
                    have p8 : 0 ≤ (x5_1 : Int) := of_decide_eq_true (by first | (with_reducible assumption) | assumption)
                    have q8 : x5_1 < (a0.size : Int) := of_decide_eq_true (by first | (with_reducible assumption) | assumption)
                    have hx8 := bt_at a0 x5_1
                    replace p8 := eq_true p8
                    replace q8 := eq_true q8
                    have p10 : 0 ≤ (x5_1 : Int) := of_decide_eq_true (by first | (with_reducible assumption) | assumption)
                    have q10 : x5_1 < (a1.size : Int) := of_decide_eq_true (by first | (with_reducible assumption) | assumption)
                    have hx10 := bt_at a1 x5_1
                    replace p10 := eq_true p10
                    replace q10 := eq_true q10
                    go_wp2
                    repeat (go_quiet (fail); try go_wp2)
                    go_roundg kj2
                    case measure => have := HK1.out; have := HJ2.out; omega
                    case rel => exact ⟨(wrap64 (x5_1 + 1)), (by first | rfl | (simp; done) | (simp [*]; done)), H', ⟨by have := HK1.out; have := HJ2.out; omega⟩, by repeat (first | exact Drawn0.refl _ | apply Drawn0.step)⟩
                  · rw [if_neg c11] at H
                    have c11b0 : ((bt a0 x5_1) == (bt a1 x5_1)) = false := beq_eq_false_iff_ne.mpr c11
                    have c11b1 : ((bt a0 x5_1) != (bt a1 x5_1)) = true := bne_iff_ne.mpr c11
                    replace H := Option.bind_eq_some_iff.mp H
                    obtain ⟨t101, A140, H⟩ := H
                    replace H : (some t101) = some r := H
                    have A14 := Aside0.mk A140
                    clear A140
                    obtain rfl := Option.some.inj H
                    have p8 : 0 ≤ (x5_1 : Int) := of_decide_eq_true (by first | (with_reducible assumption) | assumption)
                    have q8 : x5_1 < (a0.size : Int) := of_decide_eq_true (by first | (with_reducible assumption) | assumption)
                    have hx8 := bt_at a0 x5_1
                    replace p8 := eq_true p8
                    replace q8 := eq_true q8
                    have p10 : 0 ≤ (x5_1 : Int) := of_decide_eq_true (by first | (with_reducible assumption) | assumption)
                    have q10 : x5_1 < (a1.size : Int) := of_decide_eq_true (by first | (with_reducible assumption) | assumption)
                    have hx10 := bt_at a1 x5_1
                    replace p10 := eq_true p10
                    replace q10 := eq_true q10
                    have p12 : 0 ≤ (x5_1 : Int) := of_decide_eq_true (by first | (with_reducible assumption) | assumption)
                    have q12 : x5_1 < (a0.size : Int) := of_decide_eq_true (by first | (with_reducible assumption) | assumption)
                    have hx12 := bt_at a0 x5_1
                    replace p12 := eq_true p12
                    replace q12 := eq_true q12
                    have p13 : 0 ≤ (x5_1 : Int) := of_decide_eq_true (by first | (with_reducible assumption) | assumption)
                    have q13 : x5_1 < (a1.size : Int) := of_decide_eq_true (by first | (with_reducible assumption) | assumption)
                    have hx13 := bt_at a1 x5_1
                    replace p13 := eq_true p13
                    replace q13 := eq_true q13
                    go_wp2_with (first | (go_at_call 66; (with_reducible refine (chapmanref06_sign.calls (wrap64 (bt a0 x5_1)) (wrap64 (bt a1 x5_1)) t101 _ A14.out).mono ?_); rintro e w' ⟨rfl, ⟨nd, rfl⟩⟩; (try first | exact ⟨rfl, _, World.drewN_drewN _ _ _⟩ | exact ⟨rfl, _, Eq.trans (World.drewN_drewN _ _ _) (congrArg (World.drewN _) (Nat.add_assoc _ _ _))⟩)))
                    repeat (go_quiet (first | (go_at_call 66; (with_reducible refine (chapmanref06_sign.calls (wrap64 (bt a0 x5_1)) (wrap64 (bt a1 x5_1)) t101 _ A14.out).mono ?_); rintro e w' ⟨rfl, ⟨nd, rfl⟩⟩; (try first | exact ⟨rfl, _, World.drewN_drewN _ _ _⟩ | exact ⟨rfl, _, Eq.trans (World.drewN_drewN _ _ _) (congrArg (World.drewN _) (Nat.add_assoc _ _ _))⟩))); try go_wp2_with (first | (go_at_call 66; (with_reducible refine (chapmanref06_sign.calls (wrap64 (bt a0 x5_1)) (wrap64 (bt a1 x5_1)) t101 _ A14.out).mono ?_); rintro e w' ⟨rfl, ⟨nd, rfl⟩⟩; (try first | exact ⟨rfl, _, World.drewN_drewN _ _ _⟩ | exact ⟨rfl, _, Eq.trans (World.drewN_drewN _ _ _) (congrArg (World.drewN _) (Nat.add_assoc _ _ _))⟩))))
                    go_ret
                    exact ⟨by first | rfl | (simp; done) | (simp [*]; done), by repeat (first | exact Drawn0.refl _ | apply Drawn0.step)⟩
                · rw [if_neg c9] at H
                  exact absurd H (by simp)
              · rw [if_neg c7] at H
                exact absurd H (by simp)
            · rw [if_neg c6] at H
              exact absurd H (by simp)
          · replace c5 := Bool.eq_false_iff.mpr c5
            subst c5
            have H1 : ((chapmanref06_sign.f (a0.size : Int) (a1.size : Int)).bind fun t102 => (some t102)) = some r := by rw [if_neg (show ¬ (false = true) by decide)] at H; exact H
            clear H
            have H := H1
            clear H1
            replace H := Option.bind_eq_some_iff.mp H
            obtain ⟨t102, A150, H⟩ := H
            replace H : (some t102) = some r := H
            have A15 := Aside0.mk A150
            clear A150
            obtain rfl := Option.some.inj H
            go_wp2_with (first | (go_at_call 66; (with_reducible refine (chapmanref06_sign.calls (a0.size : Int) (a1.size : Int) t102 _ A15.out).mono ?_); rintro e w' ⟨rfl, ⟨nd, rfl⟩⟩; (try first | exact ⟨rfl, _, World.drewN_drewN _ _ _⟩ | exact ⟨rfl, _, Eq.trans (World.drewN_drewN _ _ _) (congrArg (World.drewN _) (Nat.add_assoc _ _ _))⟩)))
            repeat (go_quiet (first | (go_at_call 66; (with_reducible refine (chapmanref06_sign.calls (a0.size : Int) (a1.size : Int) t102 _ A15.out).mono ?_); rintro e w' ⟨rfl, ⟨nd, rfl⟩⟩; (try first | exact ⟨rfl, _, World.drewN_drewN _ _ _⟩ | exact ⟨rfl, _, Eq.trans (World.drewN_drewN _ _ _) (congrArg (World.drewN _) (Nat.add_assoc _ _ _))⟩))); try go_wp2_with (first | (go_at_call 66; (with_reducible refine (chapmanref06_sign.calls (a0.size : Int) (a1.size : Int) t102 _ A15.out).mono ?_); rintro e w' ⟨rfl, ⟨nd, rfl⟩⟩; (try first | exact ⟨rfl, _, World.drewN_drewN _ _ _⟩ | exact ⟨rfl, _, Eq.trans (World.drewN_drewN _ _ _) (congrArg (World.drewN _) (Nat.add_assoc _ _ _))⟩))))
            go_ret
            exact ⟨by first | rfl | (simp; done) | (simp [*]; done), by repeat (first | exact Drawn0.refl _ | apply Drawn0.step)⟩
end Go.Proofs.YteflfnjljjianaaGreatDoor.Qx
namespace Go.Proofs.YteflfnjljjianaaGreatDoor.Qx
open Go.RowKit Go.Proofs.YteflfnjljjianaaGreatDoorW.PrintWords Go.Proofs.YteflfnjljjianaaGreatDoorW.PrintLast Go.Proofs.YteflfnjljjianaaGreatDoorW.PrintMore
attribute [local go_sem] max2_int min2_int max_two min_two
set_option linter.unusedVariables false
set_option linter.unusedSimpArgs false
def chapmanref06_Cmp.f (k : Nat) (a0_0 : Int) (a0_1 : Int) (a0_2 : ByteArray) (a1_0 : Int) (a1_1 : Int) (a1_2 : ByteArray) : Option (Int) := if a0_0 = a1_0 then (if a0_1 = a1_1 then ((chapmanref06_Strings.f k a0_2 a1_2).bind fun t104 => (some t104)) else ((chapmanref06_sign.f a0_1 a1_1).bind fun t105 => (some t105))) else ((chapmanref06_sign.f a0_0 a1_0).bind fun t103 => (some t103))
set_option maxHeartbeats 8000000 in
set_option maxRecDepth 100000 in
theorem chapmanref06_Cmp.calls (k : Nat) (a0_0 : Int) (a0_1 : Int) (a0_2 : ByteArray) (a1_0 : Int) (a1_1 : Int) (a1_2 : ByteArray) (r : Int) (w : World) (h : chapmanref06_Cmp.f k a0_0 a0_1 a0_2 a1_0 a1_1 a1_2 = some r) :
    Calls Tryz.prog 33 #[.agg #[.int .i64 a0_0, .int .i64 a0_1, .string a0_2], .agg #[.int .i64 a1_0, .int .i64 a1_1, .string a1_2]] w fun e w' => e = .returned (.int .i64 r) ∧ Below w.heap.size w w' := by
  have hu35 := Tryz.underlying35
  have HB := Aside0.mk (Below.refl w.heap.size w)
  have H : (if a0_0 = a1_0 then (if a0_1 = a1_1 then ((chapmanref06_Strings.f k a0_2 a1_2).bind fun t104 => (some t104)) else ((chapmanref06_sign.f a0_1 a1_1).bind fun t105 => (some t105))) else ((chapmanref06_sign.f a0_0 a1_0).bind fun t103 => (some t103))) = some r := h
  clear h
  by_cases c3 : a0_0 = a1_0
  · rw [if_pos c3] at H
    have c3b0 : (a0_0 == a1_0) = true := beq_iff_eq.mpr c3
    have c3b1 : (a0_0 != a1_0) = false := bne_eq_false_iff_eq.mpr c3
    clear c3
    by_cases c4 : a0_1 = a1_1
    · rw [if_pos c4] at H
      have c4b0 : (a0_1 == a1_1) = true := beq_iff_eq.mpr c4
      have c4b1 : (a0_1 != a1_1) = false := bne_eq_false_iff_eq.mpr c4
      clear c4
      replace H := Option.bind_eq_some_iff.mp H
      obtain ⟨t104, A50, H⟩ := H
      replace H : (some t104) = some r := H
      have A5 := Aside0.mk A50
      clear A50
      obtain rfl := Option.some.inj H
      go_enter Tryz.func33, Tryz.ntmps33
      go_wp2_with (first | ((with_reducible refine gate_dst (N := 2) rfl ?_); refine box_event ?hg (N := 2) ?hd (cs := #[.int .i64 a0_0, .int .i64 a0_1, .string a0_2]) (t := 35) ?hr ?_; (case hd => rfl); (case hg => rfl); (case hr => first | (go_simp; done) | (go_simp; rfl)); intro gb101 hg w6 hbox hb; have n0_ := Aside0.mk (below_step (by repeat (first | (with_reducible first | exact HB.out | apply below_alloc | apply pw_below_drewN | apply below_drew1) | exact HB.out)) hb); have n1_ := Aside0.mk (hbox); have n2_ := Aside0.mk ((by rw [hg]; exact (below_size (by repeat (first | (with_reducible first | exact HB.out | apply below_alloc | apply pw_below_drewN | apply below_drew1) | exact HB.out))) : w.heap.size ≤ gb101)); have n3_ := Aside0.mk ((by rw [hg]; exact (below_size (by repeat (first | (with_reducible first | exact HB.out | apply below_alloc | apply pw_below_drewN | apply below_drew1) | exact HB.out))) : w.heap.size ≤ gb101)); clear HB; have HB := n0_; have BK101 := n1_; have GW101 := n2_; have GE101 := n3_; clear n0_ n1_ n2_ n3_; clear hb hbox hg) | ((with_reducible refine gate_dst (N := 3) rfl ?_); refine box_event ?hg (N := 3) ?hd (cs := #[.int .i64 a1_0, .int .i64 a1_1, .string a1_2]) (t := 35) ?hr ?_; (case hd => rfl); (case hg => rfl); (case hr => first | (go_simp; done) | (go_simp; rfl)); intro gb102 hg w7 hbox hb; have n0_ := Aside0.mk (blk_below (g := gb101) (o := .cells #[.int .i64 a0_0, .int .i64 a0_1, .string a0_2] 35 (0, 0)) (by (with_reducible repeat (first | refine blk_drewN ?_ _ | refine blk_drew ?_ | refine blk_alloc ?_ _)); exact BK101.out) hb); have n1_ := Aside0.mk (below_step (by repeat (first | (with_reducible first | exact HB.out | apply below_alloc | apply pw_below_drewN | apply below_drew1 | refine below_set ?_ GE101.out) | exact HB.out)) hb); have n2_ := Aside0.mk (hbox); have n3_ := Aside0.mk ((by rw [hg]; exact (below_size (by repeat (first | (with_reducible first | exact HB.out | apply below_alloc | apply pw_below_drewN | apply below_drew1 | refine below_set ?_ GE101.out) | exact HB.out))) : w.heap.size ≤ gb102)); have n4_ := Aside0.mk ((by rw [hg]; exact (below_size (by repeat (first | (with_reducible first | exact HB.out | apply below_alloc | apply pw_below_drewN | apply below_drew1 | refine below_set ?_ GE101.out) | exact HB.out))) : w.heap.size ≤ gb102)); have n5_ := Aside0.mk ((by rw [hg]; exact Nat.ne_of_lt (blk_lt (g := gb101) (o := .cells #[.int .i64 a0_0, .int .i64 a0_1, .string a0_2] 35 (0, 0)) (by (with_reducible repeat (first | refine blk_drewN ?_ _ | refine blk_drew ?_ | refine blk_alloc ?_ _)); exact BK101.out)) : gb101 ≠ gb102)); have n6_ := Aside0.mk ((by rw [hg]; exact Nat.ne_of_gt (blk_lt (g := gb101) (o := .cells #[.int .i64 a0_0, .int .i64 a0_1, .string a0_2] 35 (0, 0)) (by (with_reducible repeat (first | refine blk_drewN ?_ _ | refine blk_drew ?_ | refine blk_alloc ?_ _)); exact BK101.out)) : gb102 ≠ gb101)); clear BK101; clear HB; have BK101 := n0_; have HB := n1_; have BK102 := n2_; have GW102 := n3_; have GE102 := n4_; have NB101_102 := n5_; have NB102_101 := n6_; clear n0_ n1_ n2_ n3_ n4_ n5_ n6_; clear hb hbox hg; have hnb8 := NB101_102.out; have hnc8 := NB102_101.out; have hcz9_0 : w7.cell? ⟨gb101, 0, none⟩ = some (.int .i64 a0_0) := (blk_cell BK101.out 0).trans rfl; have hcz9_1 : w7.cell? ⟨gb101, 1, none⟩ = some (.int .i64 a0_1) := (blk_cell BK101.out 1).trans rfl; have hcz9_2 : w7.cell? ⟨gb101, 2, none⟩ = some (.string a0_2) := (blk_cell BK101.out 2).trans rfl; have hfz9_0 := blk_frozen BK101.out 0; have hfz9_1 := blk_frozen BK101.out 1; have hfz9_2 := blk_frozen BK101.out 2; have hcz10_0 : w7.cell? ⟨gb102, 0, none⟩ = some (.int .i64 a1_0) := (blk_cell BK102.out 0).trans rfl; have hcz10_1 : w7.cell? ⟨gb102, 1, none⟩ = some (.int .i64 a1_1) := (blk_cell BK102.out 1).trans rfl; have hcz10_2 : w7.cell? ⟨gb102, 2, none⟩ = some (.string a1_2) := (blk_cell BK102.out 2).trans rfl; have hfz10_0 := blk_frozen BK102.out 0; have hfz10_1 := blk_frozen BK102.out 1; have hfz10_2 := blk_frozen BK102.out 2) | ((with_reducible refine gate_callee (f := 67) rfl ?_); refine goesL_ (some 29) rfl rfl Tryz.func67 (by kernel_rfl) rfl #[.string a0_2, .string a1_2] rfl (by (try simp only [List.map_toArray, List.map_cons, List.map_nil]); first | done | rfl | (simp only [List.length_drop, List.length_take]; rfl)) ?_; (with_reducible refine (chapmanref06_Strings.calls k a0_2 a1_2 t104 _ A5.out).mono ?_); rintro e w' ⟨rfl, ⟨nd, rfl⟩⟩; refine ⟨_, rfl, ?_⟩))
      go_ret
      exact ⟨by first | rfl | (simp [errW_none, errW_some] <;> rfl) | (simp [*, errW_none, errW_some] <;> rfl), by repeat (first | (with_reducible first | exact HB.out | apply below_alloc | apply pw_below_drewN | apply below_drew1 | refine below_set ?_ GE101.out | refine below_set ?_ GE102.out) | exact HB.out)⟩
    · rw [if_neg c4] at H
      have c4b0 : (a0_1 == a1_1) = false := beq_eq_false_iff_ne.mpr c4
      have c4b1 : (a0_1 != a1_1) = true := bne_iff_ne.mpr c4
      replace H := Option.bind_eq_some_iff.mp H
      obtain ⟨t105, A110, H⟩ := H
      replace H : (some t105) = some r := H
      have A11 := Aside0.mk A110
      clear A110
      obtain rfl := Option.some.inj H
      go_enter Tryz.func33, Tryz.ntmps33
      go_wp2_with (first | ((with_reducible refine gate_dst (N := 2) rfl ?_); refine box_event ?hg (N := 2) ?hd (cs := #[.int .i64 a0_0, .int .i64 a0_1, .string a0_2]) (t := 35) ?hr ?_; (case hd => rfl); (case hg => rfl); (case hr => first | (go_simp; done) | (go_simp; rfl)); intro gb101 hg w12 hbox hb; have n0_ := Aside0.mk (below_step (by repeat (first | (with_reducible first | exact HB.out | apply below_alloc | apply pw_below_drewN | apply below_drew1) | exact HB.out)) hb); have n1_ := Aside0.mk (hbox); have n2_ := Aside0.mk ((by rw [hg]; exact (below_size (by repeat (first | (with_reducible first | exact HB.out | apply below_alloc | apply pw_below_drewN | apply below_drew1) | exact HB.out))) : w.heap.size ≤ gb101)); have n3_ := Aside0.mk ((by rw [hg]; exact (below_size (by repeat (first | (with_reducible first | exact HB.out | apply below_alloc | apply pw_below_drewN | apply below_drew1) | exact HB.out))) : w.heap.size ≤ gb101)); clear HB; have HB := n0_; have BK101 := n1_; have GW101 := n2_; have GE101 := n3_; clear n0_ n1_ n2_ n3_; clear hb hbox hg) | ((with_reducible refine gate_dst (N := 3) rfl ?_); refine box_event ?hg (N := 3) ?hd (cs := #[.int .i64 a1_0, .int .i64 a1_1, .string a1_2]) (t := 35) ?hr ?_; (case hd => rfl); (case hg => rfl); (case hr => first | (go_simp; done) | (go_simp; rfl)); intro gb102 hg w13 hbox hb; have n0_ := Aside0.mk (blk_below (g := gb101) (o := .cells #[.int .i64 a0_0, .int .i64 a0_1, .string a0_2] 35 (0, 0)) (by (with_reducible repeat (first | refine blk_drewN ?_ _ | refine blk_drew ?_ | refine blk_alloc ?_ _)); exact BK101.out) hb); have n1_ := Aside0.mk (below_step (by repeat (first | (with_reducible first | exact HB.out | apply below_alloc | apply pw_below_drewN | apply below_drew1 | refine below_set ?_ GE101.out) | exact HB.out)) hb); have n2_ := Aside0.mk (hbox); have n3_ := Aside0.mk ((by rw [hg]; exact (below_size (by repeat (first | (with_reducible first | exact HB.out | apply below_alloc | apply pw_below_drewN | apply below_drew1 | refine below_set ?_ GE101.out) | exact HB.out))) : w.heap.size ≤ gb102)); have n4_ := Aside0.mk ((by rw [hg]; exact (below_size (by repeat (first | (with_reducible first | exact HB.out | apply below_alloc | apply pw_below_drewN | apply below_drew1 | refine below_set ?_ GE101.out) | exact HB.out))) : w.heap.size ≤ gb102)); have n5_ := Aside0.mk ((by rw [hg]; exact Nat.ne_of_lt (blk_lt (g := gb101) (o := .cells #[.int .i64 a0_0, .int .i64 a0_1, .string a0_2] 35 (0, 0)) (by (with_reducible repeat (first | refine blk_drewN ?_ _ | refine blk_drew ?_ | refine blk_alloc ?_ _)); exact BK101.out)) : gb101 ≠ gb102)); have n6_ := Aside0.mk ((by rw [hg]; exact Nat.ne_of_gt (blk_lt (g := gb101) (o := .cells #[.int .i64 a0_0, .int .i64 a0_1, .string a0_2] 35 (0, 0)) (by (with_reducible repeat (first | refine blk_drewN ?_ _ | refine blk_drew ?_ | refine blk_alloc ?_ _)); exact BK101.out)) : gb102 ≠ gb101)); clear BK101; clear HB; have BK101 := n0_; have HB := n1_; have BK102 := n2_; have GW102 := n3_; have GE102 := n4_; have NB101_102 := n5_; have NB102_101 := n6_; clear n0_ n1_ n2_ n3_ n4_ n5_ n6_; clear hb hbox hg; have hnb14 := NB101_102.out; have hnc14 := NB102_101.out; have hcz15_0 : w13.cell? ⟨gb101, 0, none⟩ = some (.int .i64 a0_0) := (blk_cell BK101.out 0).trans rfl; have hcz15_1 : w13.cell? ⟨gb101, 1, none⟩ = some (.int .i64 a0_1) := (blk_cell BK101.out 1).trans rfl; have hcz15_2 : w13.cell? ⟨gb101, 2, none⟩ = some (.string a0_2) := (blk_cell BK101.out 2).trans rfl; have hfz15_0 := blk_frozen BK101.out 0; have hfz15_1 := blk_frozen BK101.out 1; have hfz15_2 := blk_frozen BK101.out 2; have hcz16_0 : w13.cell? ⟨gb102, 0, none⟩ = some (.int .i64 a1_0) := (blk_cell BK102.out 0).trans rfl; have hcz16_1 : w13.cell? ⟨gb102, 1, none⟩ = some (.int .i64 a1_1) := (blk_cell BK102.out 1).trans rfl; have hcz16_2 : w13.cell? ⟨gb102, 2, none⟩ = some (.string a1_2) := (blk_cell BK102.out 2).trans rfl; have hfz16_0 := blk_frozen BK102.out 0; have hfz16_1 := blk_frozen BK102.out 1; have hfz16_2 := blk_frozen BK102.out 2) | ((with_reducible refine gate_callee (f := 66) rfl ?_); refine goesL_ (some 24) rfl rfl Tryz.func66 (by kernel_rfl) rfl #[.int .i64 a0_1, .int .i64 a1_1] rfl (by (try simp only [List.map_toArray, List.map_cons, List.map_nil]); first | done | rfl | (simp only [List.length_drop, List.length_take]; rfl)) ?_; (with_reducible refine (chapmanref06_sign.calls a0_1 a1_1 t105 _ A11.out).mono ?_); rintro e w' ⟨rfl, ⟨nd, rfl⟩⟩; refine ⟨_, rfl, ?_⟩))
      go_ret
      exact ⟨by first | rfl | (simp [errW_none, errW_some] <;> rfl) | (simp [*, errW_none, errW_some] <;> rfl), by repeat (first | (with_reducible first | exact HB.out | apply below_alloc | apply pw_below_drewN | apply below_drew1 | refine below_set ?_ GE101.out | refine below_set ?_ GE102.out) | exact HB.out)⟩
  · rw [if_neg c3] at H
    have c3b0 : (a0_0 == a1_0) = false := beq_eq_false_iff_ne.mpr c3
    have c3b1 : (a0_0 != a1_0) = true := bne_iff_ne.mpr c3
    replace H := Option.bind_eq_some_iff.mp H
    obtain ⟨t103, A170, H⟩ := H
    replace H : (some t103) = some r := H
    have A17 := Aside0.mk A170
    clear A170
    obtain rfl := Option.some.inj H
    go_enter Tryz.func33, Tryz.ntmps33
    go_wp2_with (first | ((with_reducible refine gate_dst (N := 2) rfl ?_); refine box_event ?hg (N := 2) ?hd (cs := #[.int .i64 a0_0, .int .i64 a0_1, .string a0_2]) (t := 35) ?hr ?_; (case hd => rfl); (case hg => rfl); (case hr => first | (go_simp; done) | (go_simp; rfl)); intro gb101 hg w18 hbox hb; have n0_ := Aside0.mk (below_step (by repeat (first | (with_reducible first | exact HB.out | apply below_alloc | apply pw_below_drewN | apply below_drew1) | exact HB.out)) hb); have n1_ := Aside0.mk (hbox); have n2_ := Aside0.mk ((by rw [hg]; exact (below_size (by repeat (first | (with_reducible first | exact HB.out | apply below_alloc | apply pw_below_drewN | apply below_drew1) | exact HB.out))) : w.heap.size ≤ gb101)); have n3_ := Aside0.mk ((by rw [hg]; exact (below_size (by repeat (first | (with_reducible first | exact HB.out | apply below_alloc | apply pw_below_drewN | apply below_drew1) | exact HB.out))) : w.heap.size ≤ gb101)); clear HB; have HB := n0_; have BK101 := n1_; have GW101 := n2_; have GE101 := n3_; clear n0_ n1_ n2_ n3_; clear hb hbox hg) | ((with_reducible refine gate_dst (N := 3) rfl ?_); refine box_event ?hg (N := 3) ?hd (cs := #[.int .i64 a1_0, .int .i64 a1_1, .string a1_2]) (t := 35) ?hr ?_; (case hd => rfl); (case hg => rfl); (case hr => first | (go_simp; done) | (go_simp; rfl)); intro gb102 hg w19 hbox hb; have n0_ := Aside0.mk (blk_below (g := gb101) (o := .cells #[.int .i64 a0_0, .int .i64 a0_1, .string a0_2] 35 (0, 0)) (by (with_reducible repeat (first | refine blk_drewN ?_ _ | refine blk_drew ?_ | refine blk_alloc ?_ _)); exact BK101.out) hb); have n1_ := Aside0.mk (below_step (by repeat (first | (with_reducible first | exact HB.out | apply below_alloc | apply pw_below_drewN | apply below_drew1 | refine below_set ?_ GE101.out) | exact HB.out)) hb); have n2_ := Aside0.mk (hbox); have n3_ := Aside0.mk ((by rw [hg]; exact (below_size (by repeat (first | (with_reducible first | exact HB.out | apply below_alloc | apply pw_below_drewN | apply below_drew1 | refine below_set ?_ GE101.out) | exact HB.out))) : w.heap.size ≤ gb102)); have n4_ := Aside0.mk ((by rw [hg]; exact (below_size (by repeat (first | (with_reducible first | exact HB.out | apply below_alloc | apply pw_below_drewN | apply below_drew1 | refine below_set ?_ GE101.out) | exact HB.out))) : w.heap.size ≤ gb102)); have n5_ := Aside0.mk ((by rw [hg]; exact Nat.ne_of_lt (blk_lt (g := gb101) (o := .cells #[.int .i64 a0_0, .int .i64 a0_1, .string a0_2] 35 (0, 0)) (by (with_reducible repeat (first | refine blk_drewN ?_ _ | refine blk_drew ?_ | refine blk_alloc ?_ _)); exact BK101.out)) : gb101 ≠ gb102)); have n6_ := Aside0.mk ((by rw [hg]; exact Nat.ne_of_gt (blk_lt (g := gb101) (o := .cells #[.int .i64 a0_0, .int .i64 a0_1, .string a0_2] 35 (0, 0)) (by (with_reducible repeat (first | refine blk_drewN ?_ _ | refine blk_drew ?_ | refine blk_alloc ?_ _)); exact BK101.out)) : gb102 ≠ gb101)); clear BK101; clear HB; have BK101 := n0_; have HB := n1_; have BK102 := n2_; have GW102 := n3_; have GE102 := n4_; have NB101_102 := n5_; have NB102_101 := n6_; clear n0_ n1_ n2_ n3_ n4_ n5_ n6_; clear hb hbox hg; have hnb20 := NB101_102.out; have hnc20 := NB102_101.out; have hcz21_0 : w19.cell? ⟨gb101, 0, none⟩ = some (.int .i64 a0_0) := (blk_cell BK101.out 0).trans rfl; have hcz21_1 : w19.cell? ⟨gb101, 1, none⟩ = some (.int .i64 a0_1) := (blk_cell BK101.out 1).trans rfl; have hcz21_2 : w19.cell? ⟨gb101, 2, none⟩ = some (.string a0_2) := (blk_cell BK101.out 2).trans rfl; have hfz21_0 := blk_frozen BK101.out 0; have hfz21_1 := blk_frozen BK101.out 1; have hfz21_2 := blk_frozen BK101.out 2; have hcz22_0 : w19.cell? ⟨gb102, 0, none⟩ = some (.int .i64 a1_0) := (blk_cell BK102.out 0).trans rfl; have hcz22_1 : w19.cell? ⟨gb102, 1, none⟩ = some (.int .i64 a1_1) := (blk_cell BK102.out 1).trans rfl; have hcz22_2 : w19.cell? ⟨gb102, 2, none⟩ = some (.string a1_2) := (blk_cell BK102.out 2).trans rfl; have hfz22_0 := blk_frozen BK102.out 0; have hfz22_1 := blk_frozen BK102.out 1; have hfz22_2 := blk_frozen BK102.out 2) | ((with_reducible refine gate_callee (f := 66) rfl ?_); refine goesL_ (some 14) rfl rfl Tryz.func66 (by kernel_rfl) rfl #[.int .i64 a0_0, .int .i64 a1_0] rfl (by (try simp only [List.map_toArray, List.map_cons, List.map_nil]); first | done | rfl | (simp only [List.length_drop, List.length_take]; rfl)) ?_; (with_reducible refine (chapmanref06_sign.calls a0_0 a1_0 t103 _ A17.out).mono ?_); rintro e w' ⟨rfl, ⟨nd, rfl⟩⟩; refine ⟨_, rfl, ?_⟩))
    go_ret
    exact ⟨by first | rfl | (simp [errW_none, errW_some] <;> rfl) | (simp [*, errW_none, errW_some] <;> rfl), by repeat (first | (with_reducible first | exact HB.out | apply below_alloc | apply pw_below_drewN | apply below_drew1 | refine below_set ?_ GE101.out | refine below_set ?_ GE102.out) | exact HB.out)⟩
end Go.Proofs.YteflfnjljjianaaGreatDoor.Qx
namespace Go.Proofs.YteflfnjljjianaaGreatDoor.Qx
open Go.RowKit Go.Proofs.YteflfnjljjianaaGreatDoorW.PrintWords Go.Proofs.YteflfnjljjianaaGreatDoorW.PrintLast Go.Proofs.YteflfnjljjianaaGreatDoorW.PrintMore
attribute [local go_sem] max2_int min2_int max_two min_two
set_option linter.unusedVariables false
set_option linter.unusedSimpArgs false
set_option maxRecDepth 100000 in
set_option maxHeartbeats 4000000 in
theorem chapmanref06_CmpList.eq (A0 : Option Addr) (c0 : Nat) (A1 : Option Addr) (c1 : Nat) (l : List S35) (w : World) (hr0 : Kd.C k35 w A0 l.length l) (hr1 : Kd.C k35 w A1 l.length l) (hx : ∀ x ∈ l, chapmanref06_Cmp.f 100 x.f0 x.f1 x.f2 x.f0 x.f1 x.f2 = some 0) (hl : l.length ≤ 1000000) :
    Calls Tryz.prog 68 #[.slice A0 l.length c0, .slice A1 l.length c1] w fun e w' => e = .returned (.int .i64 0) ∧ Below w.heap.size w w' := by
  have hu28 := Tryz.underlying28
  have hu35 := Tryz.underlying35
  have HR0 := Lib.hid hr0
  have HR1 := Lib.hid hr1
  have HX := Lib.hid hx
  have HD := Lib.hid hl
  clear hr0 hr1 hx
  go_enter Tryz.func68, Tryz.ntmps68
  go_wp2
  go_loopw [5, 6] (fun s5 s6 wr => ∃ (j : Nat), s5 = .int .i64 j ∧ j ≤ l.length ∧ Below w.heap.size w wr) (fun s5 _ _ => l.length - (intOf s5).toNat)
  case atStart => exact ⟨0, rfl, Nat.zero_le _, Below.refl _ _⟩
  case round =>
    obtain ⟨j, rfl, hj, hB⟩ := hrel
    by_cases hlt : j < l.length
    · have hd : decide ((j : Int) < (l.length : Int)) = true := decide_eq_true (by omega)
      obtain ⟨ad, e0, x0, x1, x2⟩ := at_T35 (Kd.C_below HR0.out hB) (j : Int) (by omega) (by omega)
      obtain ⟨ad', e0', y0, y1, y2⟩ := at_T35 (Kd.C_below HR1.out hB) (j : Int) (by omega) (by omega)
      have hm : rd_T35 l (j : Int) ∈ l := by
        unfold rd_T35
        rw [Int.toNat_natCast, List.getD_eq_getElem?_getD, List.getElem?_eq_getElem hlt]
        exact List.getElem_mem _
      have HC := Lib.hid (HX.out _ hm)
      simp only [Int.toNat_natCast] at x0 x1 x2 y0 y1 y2
      replace x0 := cell_regrown x0
      replace x1 := cell_regrown x1
      replace x2 := cell_regrown x2
      replace y0 := cell_regrown y0
      replace y1 := cell_regrown y1
      replace y2 := cell_regrown y2
      subst e0 e0'
      clear hm
      generalize rd_T35 l (j : Int) = x at *
      have HB := Lib.hid hB
      clear hB
      go_wp2
      refine wp_region_quiet_below (by kernel_rfl) (by kernel_rfl) ?_
      repeat (first | go_big_quiet_step (exact Calls.regrown_of (chapmanref06_Cmp.calls 100 _ _ _ _ _ _ 0 _ HC.out)) | quiet_step (exact Calls.regrown_of (chapmanref06_Cmp.calls 100 _ _ _ _ _ _ 0 _ HC.out)))
      refine wpQuiet_nil ?_
      intro _ hw'
      obtain ⟨⟨dq, osq⟩, hw''⟩ := hw'
      subst hw''
      replace HB := Lib.hid (below_step HB.out (below_regrown wr dq osq))
      clear x0 x1 x2 y0 y1 y2
      go_wp2
      refine ⟨⟨j + 1, by simp, by omega, HB.out⟩, by simp [intOf]; omega⟩
    · have hd : decide ((j : Int) < (l.length : Int)) = false := decide_eq_false (by omega)
      have HB := Lib.hid hB
      clear hB
      go_wp2_with fail
      refine (chapmanref06_sign.calls _ _ 0 _ (by unfold chapmanref06_sign.f; rw [if_neg (by omega), if_neg (by omega)])).mono ?_
      rintro e w2 ⟨rfl, hdr⟩
      obtain ⟨n2, rfl⟩ := hdr.out
      replace HB := Lib.hid (pw_below_drewN HB.out n2)
      go_wp2
      go_ret
      exact ⟨rfl, HB.out⟩
end Go.Proofs.YteflfnjljjianaaGreatDoor.Qx
namespace Go.Proofs.YteflfnjljjianaaGreatDoor.Qx
open Go.RowKit Go.Proofs.YteflfnjljjianaaGreatDoorW.PrintWords Go.Proofs.YteflfnjljjianaaGreatDoorW.PrintLast Go.Proofs.YteflfnjljjianaaGreatDoorW.PrintMore
attribute [local go_sem] max2_int min2_int max_two min_two
set_option linter.unusedVariables false
set_option linter.unusedSimpArgs false
set_option maxRecDepth 100000 in
theorem chapmanref06_Same.eq (A0 : Option Addr) (c0 : Nat) (A1 : Option Addr) (c1 : Nat) (l : List S35) (w : World) (hr0 : Kd.C k35 w A0 l.length l) (hr1 : Kd.C k35 w A1 l.length l) (hx : ∀ x ∈ l, chapmanref06_Cmp.f 100 x.f0 x.f1 x.f2 x.f0 x.f1 x.f2 = some 0) (hl : l.length ≤ 1000000) :
    Calls Tryz.prog 34 #[.slice A0 l.length c0, .slice A1 l.length c1] w fun e w' => e = .returned (.bool true) ∧ Below w.heap.size w w' := by
  have HC := Lib.hid (chapmanref06_CmpList.eq A0 c0 A1 c1 l w hr0 hr1 hx hl)
  clear hr0 hr1 hx hl
  go_enter Tryz.func34, Tryz.ntmps34
  go_wp2_with fail
  refine HC.out.mono ?_
  rintro e w2 ⟨rfl, hb⟩
  go_wp2
  go_ret
  exact ⟨rfl, hb⟩
end Go.Proofs.YteflfnjljjianaaGreatDoor.Qx
