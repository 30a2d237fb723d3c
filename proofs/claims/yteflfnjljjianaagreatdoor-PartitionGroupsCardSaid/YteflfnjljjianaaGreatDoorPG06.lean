/- Part of a proof of PartitionGroupsCardSaid: functions of the given program and what they compute, each checked by the kernel. -/
import Derived.Test.YteflfnjljjianaaGreatDoorPG02
import Derived.Test.YteflfnjljjianaaGreatDoorPG05
import Derived.Test.YteflfnjljjianaaGreatDoorPG03
namespace Go.Proofs.YteflfnjljjianaaGreatDoor.Qx
open Go.RowKit Go.Proofs.YteflfnjljjianaaGreatDoorW.PrintWords Go.Proofs.YteflfnjljjianaaGreatDoorW.PrintLast Go.Proofs.YteflfnjljjianaaGreatDoorW.PrintMore
attribute [local go_sem] max2_int min2_int max_two min_two
set_option linter.unusedVariables false
set_option linter.unusedSimpArgs false
def partition_Valid_1.f (a0_0 : Int) (a0_1 : Int) (a0_2 : Bool) : Option (Bool) := (value_ValidType.f a0_0 a0_1 a0_2).bind fun t102 => (some (!t102))
set_option maxHeartbeats 8000000 in
set_option maxRecDepth 100000 in
theorem partition_Valid_1.calls (a0_0 : Int) (a0_1 : Int) (a0_2 : Bool) (r : Bool) (w : World) (h : partition_Valid_1.f a0_0 a0_1 a0_2 = some r) :
    Calls Tryz.prog 42 #[.agg #[.int .i64 a0_0, .int .i64 a0_1, .bool a0_2]] w fun e w' => e = .returned (.bool r) ∧ Below w.heap.size w w' := by
  have hu63 := Tryz.underlying63
  have HB := Aside0.mk (Below.refl w.heap.size w)
  have H : ((value_ValidType.f a0_0 a0_1 a0_2).bind fun t102 => (some (!t102))) = some r := h
  clear h
  replace H := Option.bind_eq_some_iff.mp H
  obtain ⟨t102, A20, H⟩ := H
  replace H : (some (!t102)) = some r := H
  have A2 := Aside0.mk A20
  clear A20
  obtain rfl := Option.some.inj H
  go_enter Tryz.func42, Tryz.ntmps42
  go_wp2_with (first | ((with_reducible refine gate_dst (N := 1) rfl ?_); refine box_event ?hg (N := 1) ?hd (cs := #[.int .i64 a0_0, .int .i64 a0_1, .bool a0_2]) (t := 63) ?hr ?_; (case hd => rfl); (case hg => rfl); (case hr => first | (go_simp; done) | (go_simp; rfl)); intro gb101 hg w3 hbox hb; have n0_ := Aside0.mk (below_step (by repeat (first | (with_reducible first | exact HB.out | apply below_alloc | apply pw_below_drewN | apply below_drew1) | exact HB.out)) hb); have n1_ := Aside0.mk (hbox); have n2_ := Aside0.mk ((by rw [hg]; exact (below_size (by repeat (first | (with_reducible first | exact HB.out | apply below_alloc | apply pw_below_drewN | apply below_drew1) | exact HB.out))) : w.heap.size ≤ gb101)); have n3_ := Aside0.mk ((by rw [hg]; exact (below_size (by repeat (first | (with_reducible first | exact HB.out | apply below_alloc | apply pw_below_drewN | apply below_drew1) | exact HB.out))) : w.heap.size ≤ gb101)); clear HB; have HB := n0_; have BK101 := n1_; have GW101 := n2_; have GE101 := n3_; clear n0_ n1_ n2_ n3_; clear hb hbox hg; have hcz4_0 : w3.cell? ⟨gb101, 0, none⟩ = some (.int .i64 a0_0) := (blk_cell BK101.out 0).trans rfl; have hcz4_1 : w3.cell? ⟨gb101, 1, none⟩ = some (.int .i64 a0_1) := (blk_cell BK101.out 1).trans rfl; have hcz4_2 : w3.cell? ⟨gb101, 2, none⟩ = some (.bool a0_2) := (blk_cell BK101.out 2).trans rfl; have hfz4_0 := blk_frozen BK101.out 0; have hfz4_1 := blk_frozen BK101.out 1; have hfz4_2 := blk_frozen BK101.out 2) | ((with_reducible refine gate_callee (f := 43) rfl ?_); refine goesL_ (some 4) rfl rfl Tryz.func43 (by kernel_rfl) rfl #[.agg #[.int .i64 a0_0, .int .i64 a0_1, .bool a0_2]] rfl (by (try simp only [List.map_toArray, List.map_cons, List.map_nil]); first | done | rfl | (simp only [List.length_drop, List.length_take]; rfl)) ?_; (with_reducible refine (value_ValidType.calls a0_0 a0_1 a0_2 t102 _ A2.out).mono ?_); rintro e w5 ⟨rfl, hb⟩; refine ⟨_, rfl, ?_⟩; have n0_ := Aside0.mk (blk_below (g := gb101) (o := .cells #[.int .i64 a0_0, .int .i64 a0_1, .bool a0_2] 63 (0, 0)) (by (with_reducible repeat (first | refine blk_drewN ?_ _ | refine blk_drew ?_ | refine blk_alloc ?_ _)); exact BK101.out) hb); have n1_ := Aside0.mk (below_step (by repeat (first | (with_reducible first | exact HB.out | apply below_alloc | apply pw_below_drewN | apply below_drew1 | refine below_set ?_ GE101.out) | exact HB.out)) hb); clear BK101; clear HB; have BK101 := n0_; have HB := n1_; clear n0_ n1_; (try clear hb); (try clear hb2); (try clear hk); (try clear hi)))
  go_ret
  exact ⟨by first | rfl | (simp [errW_none, errW_some] <;> rfl) | (simp [*, errW_none, errW_some] <;> rfl), by repeat (first | (with_reducible first | exact HB.out | apply below_alloc | apply pw_below_drewN | apply below_drew1 | refine below_set ?_ GE101.out) | exact HB.out)⟩
end Go.Proofs.YteflfnjljjianaaGreatDoor.Qx
namespace Go.Proofs.YteflfnjljjianaaGreatDoor.Qx
open Go.RowKit Go.Proofs.YteflfnjljjianaaGreatDoorW.PrintWords Go.Proofs.YteflfnjljjianaaGreatDoorW.PrintLast Go.Proofs.YteflfnjljjianaaGreatDoorW.PrintMore
attribute [local go_sem] max2_int min2_int max_two min_two
set_option linter.unusedVariables false
set_option linter.unusedSimpArgs false
def badType (t : S63) : Bool := (partition_Valid_1.f t.f0 t.f1 t.f2).getD false
theorem badType_some (t : S63) : partition_Valid_1.f t.f0 t.f1 t.f2 = some (badType t) := by
  unfold badType
  have : ∃ b, partition_Valid_1.f t.f0 t.f1 t.f2 = some b := by
    unfold partition_Valid_1.f value_ValidType.f
    repeat' split
    all_goals exact ⟨_, rfl⟩
  obtain ⟨b, hb⟩ := this
  rw [hb]
  rfl
def FoundAt (l : List S63) (w : World) (e : Ending) (w' : World) : Prop := ∃ i : Int, e = .returned (.int .i64 i) ∧ decide (0 ≤ i) = l.any badType ∧ Below w.heap.size w w'
set_option maxRecDepth 100000 in
set_option maxHeartbeats 2000000 in
theorem IndexFunc_Type (A : Option Addr) (c : Nat) (l : List S63) (w : World) (hr : Kd.C k63 w A l.length l) (hl : l.length ≤ 9223372036854775807) :
    Calls Tryz.prog 74 #[.slice A l.length c, .func (.func 42) #[] #[]] w (FoundAt l w) := by
  have hu63 := Tryz.underlying63
  have HR := Lib.hid hr
  clear hr
  go_enter Tryz.func74, Tryz.ntmps74
  go_wp2
  go_loopw [8] (fun s8 wr => ∃ j : Nat, s8 = .int .i64 j ∧ j ≤ l.length ∧ (l.take j).any badType = false ∧ Below w.heap.size w wr) (fun s8 _ => l.length - (intOf s8).toNat)
  case atStart => exact ⟨0, rfl, Nat.zero_le _, rfl, Below.refl _ _⟩
  case round =>
    obtain ⟨j, rfl, hj, hany, hb⟩ := hrel
    have HA := Lib.hid hany
    have HB := Lib.hid hb
    clear hany hb
    by_cases hlt : j < l.length
    · obtain ⟨ad, e, x0, x1, x2⟩ := at_T63 HR.out (j : Int) (by omega) (by omega)
      have ht : (l.take (j + 1)).any badType = ((l.take j).any badType || badType (rd_T63 l j)) := by
        rw [List.take_succ_eq_append_getElem hlt, List.any_append]
        simp [rd_T63, List.getD_eq_getElem?_getD, List.getElem?_eq_getElem hlt]
      have HT := Lib.hid ht
      clear ht
      simp only [Int.toNat_natCast] at x0 x1 x2
      replace x0 := (HB.out.cell (World.block_lt_of_cell? w _ x0)).trans x0
      replace x1 := (HB.out.cell (World.block_lt_of_cell? w _ x1)).trans x1
      replace x2 := (HB.out.cell (World.block_lt_of_cell? w _ x2)).trans x2
      subst e
      have hd : decide ((j : Int) < (l.length : Int)) = true := decide_eq_true (by omega)
      have hi0 : (0 : Int) ≤ (j : Int) := by omega
      have hi1 : (j : Int) < (l.length : Int) := by omega
      have hq := badType_some (rd_T63 l j)
      have hcase : badType (rd_T63 l j) = true ∨ badType (rd_T63 l j) = false := by cases badType (rd_T63 l j) <;> simp
      generalize rd_T63 l (j : Int) = t at *
      generalize hbt : badType t = b at *
      have HQ := Lib.hid hq
      have HBT := Lib.hid hbt
      clear hq hbt
      rcases hcase with rfl | rfl
      · go_wp2_with (go_at_call 42; refine (partition_Valid_1.calls t.f0 t.f1 t.f2 true _ HQ.out).mono ?_; rintro e w1 ⟨rfl, hb1⟩)
        go_ret
        refine ⟨_, rfl, ?_, below_then HB.out HB.out.size hb1⟩
        rw [decide_eq_true hi0]
        have : (l.take (j + 1)).any badType = true := by rw [HT.out]; simp
        rw [← List.take_append_drop (j + 1) l, List.any_append, this]
        rfl
      · go_wp2_with (go_at_call 42; refine (partition_Valid_1.calls t.f0 t.f1 t.f2 false _ HQ.out).mono ?_; rintro e w1 ⟨rfl, hb1⟩)
        go_roundw
        case rel => exact ⟨j + 1, by go_num, by omega, by rw [HT.out, HA.out]; rfl, below_then HB.out HB.out.size hb1⟩
        case measure => simp [intOf]; omega
    · have hd : decide ((j : Int) < (l.length : Int)) = false := decide_eq_false (by omega)
      go_wp2
      go_ret
      refine ⟨_, rfl, ?_, HB.out⟩
      have : l.take j = l := List.take_of_length_le (by omega)
      rw [← this, HA.out]
      rfl
set_option maxRecDepth 100000 in
theorem ContainsFunc_Type (A : Option Addr) (c : Nat) (l : List S63) (w : World) (hr : Kd.C k63 w A l.length l) (hl : l.length ≤ 9223372036854775807) :
    Calls Tryz.prog 41 #[.slice A l.length c, .func (.func 42) #[] #[]] w fun e w' => e = .returned (.bool (l.any badType)) ∧ Below w.heap.size w w' := by
  have H := Lib.hid (IndexFunc_Type A c l w hr hl)
  clear hr
  go_enter Tryz.func41, Tryz.ntmps41
  go_wp2_with fail
  refine H.out.mono ?_
  rintro e w' ⟨i, rfl, hi, hb⟩
  have HI := Lib.hid hi
  clear hi
  go_wp2
  go_ret
  exact ⟨by simp [HI.out], hb⟩
end Go.Proofs.YteflfnjljjianaaGreatDoor.Qx
namespace Go.Proofs.YteflfnjljjianaaGreatDoor.Qx
open Go.RowKit Go.Proofs.YteflfnjljjianaaGreatDoorW.PrintWords Go.Proofs.YteflfnjljjianaaGreatDoorW.PrintLast Go.Proofs.YteflfnjljjianaaGreatDoorW.PrintMore
attribute [local go_sem] max2_int min2_int max_two min_two
set_option linter.unusedVariables false
set_option linter.unusedSimpArgs false
theorem eqA27 (d : Nat) (w : World) (x0 y0 : Int) (x1 y1 : Int) (x2 y2 : Int) :
    (Op.equalIn (d + 2) 27 (.agg #[.int .i64 x0, .int .i64 x1, .int .i64 x2]) (.agg #[.int .i64 y0, .int .i64 y1, .int .i64 y2])).run Tryz.prog w = .ok (x0 == y0 && (x1 == y1 && (x2 == y2))) w := by
  refine eqA_of Tryz.underlying27 (by kernel_rfl) ?_
  refine eqf_cons (by rfl) (by go_simp; rfl) (by go_simp; rfl) (by go_simp) ?_
  refine eqf_cons (by rfl) (by go_simp; rfl) (by go_simp; rfl) (by go_simp) ?_
  exact eqf_last (by rfl) (by go_simp; rfl) (by go_simp; rfl) (by go_simp)
attribute [local go_sem high] eqA27
def partition_Valid.kind (K : Int) (t : S63) (n : Int) : Option Bool := if K = 1 then partition_kinds_1.f t.f0 t.f1 t.f2 n else if K = 2 then partition_kinds_2.f t.f0 t.f1 t.f2 n else partition_truncates.f t.f0 t.f1 t.f2 n
def partition_Valid.f (l0 : List S63) (a1_0 a1_1 a1_2 : Int) : Option Bool :=
  if l0.length ≤ 9223372036854775807 then if l0.any badType = true then some false else if a1_0 = 0 then some (a1_1 == 0 && (a1_2 == 0)) else if 0 < a1_0 ∧ a1_0 < 4 ∧ 0 ≤ a1_1 ∧ a1_1 < (l0.length : Int) then partition_Valid.kind a1_0 (rd_T63 l0 a1_1) a1_2 else some false else none
set_option maxRecDepth 100000 in
set_option maxHeartbeats 4000000 in
theorem partition_Valid.bad (A0 : Option Addr) (c0 : Nat) (l0 : List S63) (a1_0 : Int) (a1_1 a1_2 : Int) (w : World) (hr : Kd.C k63 w A0 l0.length l0) (hl : l0.length ≤ 9223372036854775807) (ha : l0.any badType = true) :
    Calls Tryz.prog 13 #[.slice A0 l0.length c0, .agg #[.int .i64 a1_0, .int .i64 a1_1, .int .i64 a1_2]] w fun e w' => e = .returned (.bool false) ∧ Below w.heap.size w w' := by
  have hu27 := Tryz.underlying27
  have hu63 := Tryz.underlying63
  have HL := Lib.hid hl
  have HR := Lib.hid hr
  have HA := Lib.hid ha
  clear hl hr ha
  go_enter Tryz.func13, Tryz.ntmps13
  go_wp2_with fail
  have hb := Lib.hid ((Below.refl _ w).alloc (Nat.le_refl _) (.cells #[.int .i64 a1_0, .int .i64 a1_1, .int .i64 a1_2] 27))
  have k0_0 : (w.alloc (.cells #[.int .i64 a1_0, .int .i64 a1_1, .int .i64 a1_2] 27)).cell? ⟨w.heap.size, 0, none⟩ = some (.int .i64 a1_0) := by simp [go_sem]
  have k0_1 : (w.alloc (.cells #[.int .i64 a1_0, .int .i64 a1_1, .int .i64 a1_2] 27)).cell? ⟨w.heap.size, 1, none⟩ = some (.int .i64 a1_1) := by simp [go_sem]
  have k0_2 : (w.alloc (.cells #[.int .i64 a1_0, .int .i64 a1_1, .int .i64 a1_2] 27)).cell? ⟨w.heap.size, 2, none⟩ = some (.int .i64 a1_2) := by simp [go_sem]
  have lt0 : w.heap.size < (w.alloc (.cells #[.int .i64 a1_0, .int .i64 a1_1, .int .i64 a1_2] 27)).heap.size := by simp only [World.size_alloc]; omega
  generalize w.alloc (.cells #[.int .i64 a1_0, .int .i64 a1_1, .int .i64 a1_2] 27) = W at *
  clear lt0
  refine (ContainsFunc_Type A0 c0 l0 _ (Kd.C_below HR.out hb.out) HL.out).mono ?_
  rintro e W2 ⟨rfl, hb1⟩
  rw [HA.out]
  replace k0_0 := pw_cell_below hb1 k0_0
  replace k0_1 := pw_cell_below hb1 k0_1
  replace k0_2 := pw_cell_below hb1 k0_2
  have hB := Lib.hid (below_then hb.out hb.out.size hb1)
  clear hb hb1
  go_wp2
  go_ret
  exact ⟨rfl, hB.out⟩
set_option maxRecDepth 100000 in
set_option maxHeartbeats 4000000 in
theorem partition_Valid.zero (A0 : Option Addr) (c0 : Nat) (l0 : List S63) (a1_1 a1_2 : Int) (w : World) (hr : Kd.C k63 w A0 l0.length l0) (hl : l0.length ≤ 9223372036854775807) (ha : l0.any badType = false) :
    Calls Tryz.prog 13 #[.slice A0 l0.length c0, .agg #[.int .i64 0, .int .i64 a1_1, .int .i64 a1_2]] w fun e w' => e = .returned (.bool (a1_1 == 0 && (a1_2 == 0))) ∧ Below w.heap.size w w' := by
  have hu27 := Tryz.underlying27
  have hu63 := Tryz.underlying63
  have HL := Lib.hid hl
  have HR := Lib.hid hr
  have HA := Lib.hid ha
  clear hl hr ha
  go_enter Tryz.func13, Tryz.ntmps13
  go_wp2_with fail
  have hb := Lib.hid ((Below.refl _ w).alloc (Nat.le_refl _) (.cells #[.int .i64 0, .int .i64 a1_1, .int .i64 a1_2] 27))
  have k0_0 : (w.alloc (.cells #[.int .i64 0, .int .i64 a1_1, .int .i64 a1_2] 27)).cell? ⟨w.heap.size, 0, none⟩ = some (.int .i64 0) := by simp [go_sem]
  have k0_1 : (w.alloc (.cells #[.int .i64 0, .int .i64 a1_1, .int .i64 a1_2] 27)).cell? ⟨w.heap.size, 1, none⟩ = some (.int .i64 a1_1) := by simp [go_sem]
  have k0_2 : (w.alloc (.cells #[.int .i64 0, .int .i64 a1_1, .int .i64 a1_2] 27)).cell? ⟨w.heap.size, 2, none⟩ = some (.int .i64 a1_2) := by simp [go_sem]
  have lt0 : w.heap.size < (w.alloc (.cells #[.int .i64 0, .int .i64 a1_1, .int .i64 a1_2] 27)).heap.size := by simp only [World.size_alloc]; omega
  generalize w.alloc (.cells #[.int .i64 0, .int .i64 a1_1, .int .i64 a1_2] 27) = W at *
  clear lt0
  refine (ContainsFunc_Type A0 c0 l0 _ (Kd.C_below HR.out hb.out) HL.out).mono ?_
  rintro e W2 ⟨rfl, hb1⟩
  rw [HA.out]
  replace k0_0 := pw_cell_below hb1 k0_0
  replace k0_1 := pw_cell_below hb1 k0_1
  replace k0_2 := pw_cell_below hb1 k0_2
  have hB := Lib.hid (below_then hb.out hb.out.size hb1)
  clear hb hb1
  go_wp2
  go_ret
  exact ⟨by simp, hB.out⟩
set_option maxRecDepth 100000 in
set_option maxHeartbeats 4000000 in
theorem partition_Valid.neg (A0 : Option Addr) (c0 : Nat) (l0 : List S63) (a1_0 : Int) (a1_1 a1_2 : Int) (w : World) (hr : Kd.C k63 w A0 l0.length l0) (hl : l0.length ≤ 9223372036854775807) (ha : l0.any badType = false) (h0 : (a1_0 == 0) = false) (h1 : decide (0 < a1_0) = false) :
    Calls Tryz.prog 13 #[.slice A0 l0.length c0, .agg #[.int .i64 a1_0, .int .i64 a1_1, .int .i64 a1_2]] w fun e w' => e = .returned (.bool false) ∧ Below w.heap.size w w' := by
  have hu27 := Tryz.underlying27
  have hu63 := Tryz.underlying63
  have HL := Lib.hid hl
  have HR := Lib.hid hr
  have HA := Lib.hid ha
  clear hl hr ha
  go_enter Tryz.func13, Tryz.ntmps13
  go_wp2_with fail
  have hb := Lib.hid ((Below.refl _ w).alloc (Nat.le_refl _) (.cells #[.int .i64 a1_0, .int .i64 a1_1, .int .i64 a1_2] 27))
  have k0_0 : (w.alloc (.cells #[.int .i64 a1_0, .int .i64 a1_1, .int .i64 a1_2] 27)).cell? ⟨w.heap.size, 0, none⟩ = some (.int .i64 a1_0) := by simp [go_sem]
  have k0_1 : (w.alloc (.cells #[.int .i64 a1_0, .int .i64 a1_1, .int .i64 a1_2] 27)).cell? ⟨w.heap.size, 1, none⟩ = some (.int .i64 a1_1) := by simp [go_sem]
  have k0_2 : (w.alloc (.cells #[.int .i64 a1_0, .int .i64 a1_1, .int .i64 a1_2] 27)).cell? ⟨w.heap.size, 2, none⟩ = some (.int .i64 a1_2) := by simp [go_sem]
  have lt0 : w.heap.size < (w.alloc (.cells #[.int .i64 a1_0, .int .i64 a1_1, .int .i64 a1_2] 27)).heap.size := by simp only [World.size_alloc]; omega
  generalize w.alloc (.cells #[.int .i64 a1_0, .int .i64 a1_1, .int .i64 a1_2] 27) = W at *
  clear lt0
  refine (ContainsFunc_Type A0 c0 l0 _ (Kd.C_below HR.out hb.out) HL.out).mono ?_
  rintro e W2 ⟨rfl, hb1⟩
  rw [HA.out]
  replace k0_0 := pw_cell_below hb1 k0_0
  replace k0_1 := pw_cell_below hb1 k0_1
  replace k0_2 := pw_cell_below hb1 k0_2
  have hB := Lib.hid (below_then hb.out hb.out.size hb1)
  clear hb hb1
  go_wp2
  replace k0_0 := cell_regrown k0_0
  replace k0_1 := cell_regrown k0_1
  replace k0_2 := cell_regrown k0_2
  refine wp_region_quiet_below (by kernel_rfl) (by kernel_rfl) ?_
  repeat (first | go_big_quiet_step (first | exact Calls.regrown_of (partition_kinds.tab _)) | quiet_step (first | exact Calls.regrown_of (partition_kinds.tab _)))
  refine wpQuiet_nil ?_
  intro _ hw'
  obtain ⟨⟨dq, osq⟩, hw''⟩ := hw'
  subst hw''
  have hD := Lib.hid (below_regrown W2 dq osq)
  go_wp2
  go_ret
  exact ⟨rfl, below_then hB.out hB.out.size hD.out⟩
set_option maxRecDepth 100000 in
set_option maxHeartbeats 4000000 in
theorem partition_Valid.big (A0 : Option Addr) (c0 : Nat) (l0 : List S63) (a1_0 : Int) (a1_1 a1_2 : Int) (w : World) (hr : Kd.C k63 w A0 l0.length l0) (hl : l0.length ≤ 9223372036854775807) (ha : l0.any badType = false) (h0 : (a1_0 == 0) = false) (h1 : decide (0 < a1_0) = true) (h2 : decide (a1_0 < 4) = false) :
    Calls Tryz.prog 13 #[.slice A0 l0.length c0, .agg #[.int .i64 a1_0, .int .i64 a1_1, .int .i64 a1_2]] w fun e w' => e = .returned (.bool false) ∧ Below w.heap.size w w' := by
  have hu27 := Tryz.underlying27
  have hu63 := Tryz.underlying63
  have HL := Lib.hid hl
  have HR := Lib.hid hr
  have HA := Lib.hid ha
  clear hl hr ha
  go_enter Tryz.func13, Tryz.ntmps13
  go_wp2_with fail
  have hb := Lib.hid ((Below.refl _ w).alloc (Nat.le_refl _) (.cells #[.int .i64 a1_0, .int .i64 a1_1, .int .i64 a1_2] 27))
  have k0_0 : (w.alloc (.cells #[.int .i64 a1_0, .int .i64 a1_1, .int .i64 a1_2] 27)).cell? ⟨w.heap.size, 0, none⟩ = some (.int .i64 a1_0) := by simp [go_sem]
  have k0_1 : (w.alloc (.cells #[.int .i64 a1_0, .int .i64 a1_1, .int .i64 a1_2] 27)).cell? ⟨w.heap.size, 1, none⟩ = some (.int .i64 a1_1) := by simp [go_sem]
  have k0_2 : (w.alloc (.cells #[.int .i64 a1_0, .int .i64 a1_1, .int .i64 a1_2] 27)).cell? ⟨w.heap.size, 2, none⟩ = some (.int .i64 a1_2) := by simp [go_sem]
  have lt0 : w.heap.size < (w.alloc (.cells #[.int .i64 a1_0, .int .i64 a1_1, .int .i64 a1_2] 27)).heap.size := by simp only [World.size_alloc]; omega
  generalize w.alloc (.cells #[.int .i64 a1_0, .int .i64 a1_1, .int .i64 a1_2] 27) = W at *
  clear lt0
  refine (ContainsFunc_Type A0 c0 l0 _ (Kd.C_below HR.out hb.out) HL.out).mono ?_
  rintro e W2 ⟨rfl, hb1⟩
  rw [HA.out]
  replace k0_0 := pw_cell_below hb1 k0_0
  replace k0_1 := pw_cell_below hb1 k0_1
  replace k0_2 := pw_cell_below hb1 k0_2
  have hB := Lib.hid (below_then hb.out hb.out.size hb1)
  clear hb hb1
  go_wp2
  replace k0_0 := cell_regrown k0_0
  replace k0_1 := cell_regrown k0_1
  replace k0_2 := cell_regrown k0_2
  refine wp_region_quiet_below (by kernel_rfl) (by kernel_rfl) ?_
  repeat (first | go_big_quiet_step (first | exact Calls.regrown_of (partition_kinds.tab _)) | quiet_step (first | exact Calls.regrown_of (partition_kinds.tab _)))
  refine wpQuiet_nil ?_
  intro _ hw'
  obtain ⟨⟨dq, osq⟩, hw''⟩ := hw'
  subst hw''
  have hD := Lib.hid (below_regrown W2 dq osq)
  go_wp2
  go_ret
  exact ⟨rfl, below_then hB.out hB.out.size hD.out⟩
set_option maxRecDepth 100000 in
set_option maxHeartbeats 4000000 in
theorem partition_Valid.low (A0 : Option Addr) (c0 : Nat) (l0 : List S63) (a1_0 : Int) (a1_1 a1_2 : Int) (w : World) (hr : Kd.C k63 w A0 l0.length l0) (hl : l0.length ≤ 9223372036854775807) (ha : l0.any badType = false) (h0 : (a1_0 == 0) = false) (h1 : decide (0 < a1_0) = true) (h2 : decide (a1_0 < 4) = true) (h3 : decide (0 ≤ a1_1) = false) :
    Calls Tryz.prog 13 #[.slice A0 l0.length c0, .agg #[.int .i64 a1_0, .int .i64 a1_1, .int .i64 a1_2]] w fun e w' => e = .returned (.bool false) ∧ Below w.heap.size w w' := by
  have hu27 := Tryz.underlying27
  have hu63 := Tryz.underlying63
  have HL := Lib.hid hl
  have HR := Lib.hid hr
  have HA := Lib.hid ha
  clear hl hr ha
  go_enter Tryz.func13, Tryz.ntmps13
  go_wp2_with fail
  have hb := Lib.hid ((Below.refl _ w).alloc (Nat.le_refl _) (.cells #[.int .i64 a1_0, .int .i64 a1_1, .int .i64 a1_2] 27))
  have k0_0 : (w.alloc (.cells #[.int .i64 a1_0, .int .i64 a1_1, .int .i64 a1_2] 27)).cell? ⟨w.heap.size, 0, none⟩ = some (.int .i64 a1_0) := by simp [go_sem]
  have k0_1 : (w.alloc (.cells #[.int .i64 a1_0, .int .i64 a1_1, .int .i64 a1_2] 27)).cell? ⟨w.heap.size, 1, none⟩ = some (.int .i64 a1_1) := by simp [go_sem]
  have k0_2 : (w.alloc (.cells #[.int .i64 a1_0, .int .i64 a1_1, .int .i64 a1_2] 27)).cell? ⟨w.heap.size, 2, none⟩ = some (.int .i64 a1_2) := by simp [go_sem]
  have lt0 : w.heap.size < (w.alloc (.cells #[.int .i64 a1_0, .int .i64 a1_1, .int .i64 a1_2] 27)).heap.size := by simp only [World.size_alloc]; omega
  generalize w.alloc (.cells #[.int .i64 a1_0, .int .i64 a1_1, .int .i64 a1_2] 27) = W at *
  clear lt0
  refine (ContainsFunc_Type A0 c0 l0 _ (Kd.C_below HR.out hb.out) HL.out).mono ?_
  rintro e W2 ⟨rfl, hb1⟩
  rw [HA.out]
  replace k0_0 := pw_cell_below hb1 k0_0
  replace k0_1 := pw_cell_below hb1 k0_1
  replace k0_2 := pw_cell_below hb1 k0_2
  have hB := Lib.hid (below_then hb.out hb.out.size hb1)
  clear hb hb1
  go_wp2
  replace k0_0 := cell_regrown k0_0
  replace k0_1 := cell_regrown k0_1
  replace k0_2 := cell_regrown k0_2
  refine wp_region_quiet_below (by kernel_rfl) (by kernel_rfl) ?_
  repeat (first | go_big_quiet_step (first | exact Calls.regrown_of (partition_kinds.tab _)) | quiet_step (first | exact Calls.regrown_of (partition_kinds.tab _)))
  refine wpQuiet_nil ?_
  intro _ hw'
  obtain ⟨⟨dq, osq⟩, hw''⟩ := hw'
  subst hw''
  have hD := Lib.hid (below_regrown W2 dq osq)
  go_wp2
  go_ret
  exact ⟨rfl, below_then hB.out hB.out.size hD.out⟩
set_option maxRecDepth 100000 in
set_option maxHeartbeats 4000000 in
theorem partition_Valid.high (A0 : Option Addr) (c0 : Nat) (l0 : List S63) (a1_0 : Int) (a1_1 a1_2 : Int) (w : World) (hr : Kd.C k63 w A0 l0.length l0) (hl : l0.length ≤ 9223372036854775807) (ha : l0.any badType = false) (h0 : (a1_0 == 0) = false) (h1 : decide (0 < a1_0) = true) (h2 : decide (a1_0 < 4) = true) (h3 : decide (0 ≤ a1_1) = true) (h4 : decide (a1_1 < (l0.length : Int)) = false) :
    Calls Tryz.prog 13 #[.slice A0 l0.length c0, .agg #[.int .i64 a1_0, .int .i64 a1_1, .int .i64 a1_2]] w fun e w' => e = .returned (.bool false) ∧ Below w.heap.size w w' := by
  have hu27 := Tryz.underlying27
  have hu63 := Tryz.underlying63
  have HL := Lib.hid hl
  have HR := Lib.hid hr
  have HA := Lib.hid ha
  clear hl hr ha
  go_enter Tryz.func13, Tryz.ntmps13
  go_wp2_with fail
  have hb := Lib.hid ((Below.refl _ w).alloc (Nat.le_refl _) (.cells #[.int .i64 a1_0, .int .i64 a1_1, .int .i64 a1_2] 27))
  have k0_0 : (w.alloc (.cells #[.int .i64 a1_0, .int .i64 a1_1, .int .i64 a1_2] 27)).cell? ⟨w.heap.size, 0, none⟩ = some (.int .i64 a1_0) := by simp [go_sem]
  have k0_1 : (w.alloc (.cells #[.int .i64 a1_0, .int .i64 a1_1, .int .i64 a1_2] 27)).cell? ⟨w.heap.size, 1, none⟩ = some (.int .i64 a1_1) := by simp [go_sem]
  have k0_2 : (w.alloc (.cells #[.int .i64 a1_0, .int .i64 a1_1, .int .i64 a1_2] 27)).cell? ⟨w.heap.size, 2, none⟩ = some (.int .i64 a1_2) := by simp [go_sem]
  have lt0 : w.heap.size < (w.alloc (.cells #[.int .i64 a1_0, .int .i64 a1_1, .int .i64 a1_2] 27)).heap.size := by simp only [World.size_alloc]; omega
  generalize w.alloc (.cells #[.int .i64 a1_0, .int .i64 a1_1, .int .i64 a1_2] 27) = W at *
  clear lt0
  refine (ContainsFunc_Type A0 c0 l0 _ (Kd.C_below HR.out hb.out) HL.out).mono ?_
  rintro e W2 ⟨rfl, hb1⟩
  rw [HA.out]
  replace k0_0 := pw_cell_below hb1 k0_0
  replace k0_1 := pw_cell_below hb1 k0_1
  replace k0_2 := pw_cell_below hb1 k0_2
  have hB := Lib.hid (below_then hb.out hb.out.size hb1)
  clear hb hb1
  go_wp2
  replace k0_0 := cell_regrown k0_0
  replace k0_1 := cell_regrown k0_1
  replace k0_2 := cell_regrown k0_2
  refine wp_region_quiet_below (by kernel_rfl) (by kernel_rfl) ?_
  repeat (first | go_big_quiet_step (first | exact Calls.regrown_of (partition_kinds.tab _)) | quiet_step (first | exact Calls.regrown_of (partition_kinds.tab _)))
  refine wpQuiet_nil ?_
  intro _ hw'
  obtain ⟨⟨dq, osq⟩, hw''⟩ := hw'
  subst hw''
  have hD := Lib.hid (below_regrown W2 dq osq)
  go_wp2
  go_ret
  exact ⟨rfl, below_then hB.out hB.out.size hD.out⟩
set_option maxRecDepth 100000 in
set_option maxHeartbeats 4000000 in
theorem partition_Valid.case1 (A0 : Option Addr) (c0 : Nat) (l0 : List S63) (a1_1 a1_2 : Int) (w : World) (hr : Kd.C k63 w A0 l0.length l0) (hl : l0.length ≤ 9223372036854775807) (ha : l0.any badType = false) (h3 : decide (0 ≤ a1_1) = true) (h4 : decide (a1_1 < (l0.length : Int)) = true) (i0 : 0 ≤ a1_1) (i1 : a1_1 < (l0.length : Int)) (r : Bool) (hf : ∀ w, Calls Tryz.prog 75 #[.agg #[.int .i64 (rd_T63 l0 a1_1).f0, .int .i64 (rd_T63 l0 a1_1).f1, .bool (rd_T63 l0 a1_1).f2], .int .i64 a1_2] w fun e w' => e = .returned (.bool r) ∧ Below w.heap.size w w') :
    Calls Tryz.prog 13 #[.slice A0 l0.length c0, .agg #[.int .i64 1, .int .i64 a1_1, .int .i64 a1_2]] w fun e w' => e = .returned (.bool r) ∧ Below w.heap.size w w' := by
  have HF := Lib.hid hf
  clear hf
  obtain ⟨ad, e0, y0, y1, y2⟩ := at_T63 hr a1_1 i0 i1
  subst e0
  have Y0 := Lib.hid y0
  have Y1 := Lib.hid y1
  have Y2 := Lib.hid y2
  clear y0 y1 y2
  have hu27 := Tryz.underlying27
  have hu63 := Tryz.underlying63
  have HL := Lib.hid hl
  have HR := Lib.hid hr
  have HA := Lib.hid ha
  clear hl hr ha
  go_enter Tryz.func13, Tryz.ntmps13
  go_wp2_with fail
  have hb := Lib.hid ((Below.refl _ w).alloc (Nat.le_refl _) (.cells #[.int .i64 1, .int .i64 a1_1, .int .i64 a1_2] 27))
  have k0_0 : (w.alloc (.cells #[.int .i64 1, .int .i64 a1_1, .int .i64 a1_2] 27)).cell? ⟨w.heap.size, 0, none⟩ = some (.int .i64 1) := by simp [go_sem]
  have k0_1 : (w.alloc (.cells #[.int .i64 1, .int .i64 a1_1, .int .i64 a1_2] 27)).cell? ⟨w.heap.size, 1, none⟩ = some (.int .i64 a1_1) := by simp [go_sem]
  have k0_2 : (w.alloc (.cells #[.int .i64 1, .int .i64 a1_1, .int .i64 a1_2] 27)).cell? ⟨w.heap.size, 2, none⟩ = some (.int .i64 a1_2) := by simp [go_sem]
  have lt0 : w.heap.size < (w.alloc (.cells #[.int .i64 1, .int .i64 a1_1, .int .i64 a1_2] 27)).heap.size := by simp only [World.size_alloc]; omega
  generalize w.alloc (.cells #[.int .i64 1, .int .i64 a1_1, .int .i64 a1_2] 27) = W at *
  clear lt0
  refine (ContainsFunc_Type (some ad) c0 l0 _ (Kd.C_below HR.out hb.out) HL.out).mono ?_
  rintro e W2 ⟨rfl, hb1⟩
  rw [HA.out]
  replace k0_0 := pw_cell_below hb1 k0_0
  replace k0_1 := pw_cell_below hb1 k0_1
  replace k0_2 := pw_cell_below hb1 k0_2
  have hB := Lib.hid (below_then hb.out hb.out.size hb1)
  clear hb hb1
  have y0 := pw_cell_below hB.out Y0.out
  have y1 := pw_cell_below hB.out Y1.out
  have y2 := pw_cell_below hB.out Y2.out
  go_wp2
  generalize rd_T63 l0 a1_1 = t at *
  replace k0_0 := cell_regrown k0_0
  replace k0_1 := cell_regrown k0_1
  replace k0_2 := cell_regrown k0_2
  replace y0 := cell_regrown y0
  replace y1 := cell_regrown y1
  replace y2 := cell_regrown y2
  have z1 := partition_kinds.at1
  have z2 := partition_kinds.fld1_0
  refine wp_region_quiet_below (by kernel_rfl) (by kernel_rfl) ?_
  repeat (first | go_big_quiet_step (first | exact Calls.regrown_of (partition_kinds.tab _) | exact Calls.regrown_of (HF.out _)) | quiet_step (first | exact Calls.regrown_of (partition_kinds.tab _) | exact Calls.regrown_of (HF.out _)))
  refine wpQuiet_nil ?_
  intro _ hw'
  obtain ⟨⟨dq, osq⟩, hw''⟩ := hw'
  subst hw''
  have hD := Lib.hid (below_regrown W2 dq osq)
  go_wp2
  go_ret
  exact ⟨rfl, below_then hB.out hB.out.size hD.out⟩
set_option maxRecDepth 100000 in
set_option maxHeartbeats 4000000 in
theorem partition_Valid.case2 (A0 : Option Addr) (c0 : Nat) (l0 : List S63) (a1_1 a1_2 : Int) (w : World) (hr : Kd.C k63 w A0 l0.length l0) (hl : l0.length ≤ 9223372036854775807) (ha : l0.any badType = false) (h3 : decide (0 ≤ a1_1) = true) (h4 : decide (a1_1 < (l0.length : Int)) = true) (i0 : 0 ≤ a1_1) (i1 : a1_1 < (l0.length : Int)) (r : Bool) (hf : ∀ w, Calls Tryz.prog 78 #[.agg #[.int .i64 (rd_T63 l0 a1_1).f0, .int .i64 (rd_T63 l0 a1_1).f1, .bool (rd_T63 l0 a1_1).f2], .int .i64 a1_2] w fun e w' => e = .returned (.bool r) ∧ Below w.heap.size w w') :
    Calls Tryz.prog 13 #[.slice A0 l0.length c0, .agg #[.int .i64 2, .int .i64 a1_1, .int .i64 a1_2]] w fun e w' => e = .returned (.bool r) ∧ Below w.heap.size w w' := by
  have HF := Lib.hid hf
  clear hf
  obtain ⟨ad, e0, y0, y1, y2⟩ := at_T63 hr a1_1 i0 i1
  subst e0
  have Y0 := Lib.hid y0
  have Y1 := Lib.hid y1
  have Y2 := Lib.hid y2
  clear y0 y1 y2
  have hu27 := Tryz.underlying27
  have hu63 := Tryz.underlying63
  have HL := Lib.hid hl
  have HR := Lib.hid hr
  have HA := Lib.hid ha
  clear hl hr ha
  go_enter Tryz.func13, Tryz.ntmps13
  go_wp2_with fail
  have hb := Lib.hid ((Below.refl _ w).alloc (Nat.le_refl _) (.cells #[.int .i64 2, .int .i64 a1_1, .int .i64 a1_2] 27))
  have k0_0 : (w.alloc (.cells #[.int .i64 2, .int .i64 a1_1, .int .i64 a1_2] 27)).cell? ⟨w.heap.size, 0, none⟩ = some (.int .i64 2) := by simp [go_sem]
  have k0_1 : (w.alloc (.cells #[.int .i64 2, .int .i64 a1_1, .int .i64 a1_2] 27)).cell? ⟨w.heap.size, 1, none⟩ = some (.int .i64 a1_1) := by simp [go_sem]
  have k0_2 : (w.alloc (.cells #[.int .i64 2, .int .i64 a1_1, .int .i64 a1_2] 27)).cell? ⟨w.heap.size, 2, none⟩ = some (.int .i64 a1_2) := by simp [go_sem]
  have lt0 : w.heap.size < (w.alloc (.cells #[.int .i64 2, .int .i64 a1_1, .int .i64 a1_2] 27)).heap.size := by simp only [World.size_alloc]; omega
  generalize w.alloc (.cells #[.int .i64 2, .int .i64 a1_1, .int .i64 a1_2] 27) = W at *
  clear lt0
  refine (ContainsFunc_Type (some ad) c0 l0 _ (Kd.C_below HR.out hb.out) HL.out).mono ?_
  rintro e W2 ⟨rfl, hb1⟩
  rw [HA.out]
  replace k0_0 := pw_cell_below hb1 k0_0
  replace k0_1 := pw_cell_below hb1 k0_1
  replace k0_2 := pw_cell_below hb1 k0_2
  have hB := Lib.hid (below_then hb.out hb.out.size hb1)
  clear hb hb1
  have y0 := pw_cell_below hB.out Y0.out
  have y1 := pw_cell_below hB.out Y1.out
  have y2 := pw_cell_below hB.out Y2.out
  go_wp2
  generalize rd_T63 l0 a1_1 = t at *
  replace k0_0 := cell_regrown k0_0
  replace k0_1 := cell_regrown k0_1
  replace k0_2 := cell_regrown k0_2
  replace y0 := cell_regrown y0
  replace y1 := cell_regrown y1
  replace y2 := cell_regrown y2
  have z1 := partition_kinds.at2
  have z2 := partition_kinds.fld2_0
  refine wp_region_quiet_below (by kernel_rfl) (by kernel_rfl) ?_
  repeat (first | go_big_quiet_step (first | exact Calls.regrown_of (partition_kinds.tab _) | exact Calls.regrown_of (HF.out _)) | quiet_step (first | exact Calls.regrown_of (partition_kinds.tab _) | exact Calls.regrown_of (HF.out _)))
  refine wpQuiet_nil ?_
  intro _ hw'
  obtain ⟨⟨dq, osq⟩, hw''⟩ := hw'
  subst hw''
  have hD := Lib.hid (below_regrown W2 dq osq)
  go_wp2
  go_ret
  exact ⟨rfl, below_then hB.out hB.out.size hD.out⟩
set_option maxRecDepth 100000 in
set_option maxHeartbeats 4000000 in
theorem partition_Valid.case3 (A0 : Option Addr) (c0 : Nat) (l0 : List S63) (a1_1 a1_2 : Int) (w : World) (hr : Kd.C k63 w A0 l0.length l0) (hl : l0.length ≤ 9223372036854775807) (ha : l0.any badType = false) (h3 : decide (0 ≤ a1_1) = true) (h4 : decide (a1_1 < (l0.length : Int)) = true) (i0 : 0 ≤ a1_1) (i1 : a1_1 < (l0.length : Int)) (r : Bool) (hf : ∀ w, Calls Tryz.prog 81 #[.agg #[.int .i64 (rd_T63 l0 a1_1).f0, .int .i64 (rd_T63 l0 a1_1).f1, .bool (rd_T63 l0 a1_1).f2], .int .i64 a1_2] w fun e w' => e = .returned (.bool r) ∧ Below w.heap.size w w') :
    Calls Tryz.prog 13 #[.slice A0 l0.length c0, .agg #[.int .i64 3, .int .i64 a1_1, .int .i64 a1_2]] w fun e w' => e = .returned (.bool r) ∧ Below w.heap.size w w' := by
  have HF := Lib.hid hf
  clear hf
  obtain ⟨ad, e0, y0, y1, y2⟩ := at_T63 hr a1_1 i0 i1
  subst e0
  have Y0 := Lib.hid y0
  have Y1 := Lib.hid y1
  have Y2 := Lib.hid y2
  clear y0 y1 y2
  have hu27 := Tryz.underlying27
  have hu63 := Tryz.underlying63
  have HL := Lib.hid hl
  have HR := Lib.hid hr
  have HA := Lib.hid ha
  clear hl hr ha
  go_enter Tryz.func13, Tryz.ntmps13
  go_wp2_with fail
  have hb := Lib.hid ((Below.refl _ w).alloc (Nat.le_refl _) (.cells #[.int .i64 3, .int .i64 a1_1, .int .i64 a1_2] 27))
  have k0_0 : (w.alloc (.cells #[.int .i64 3, .int .i64 a1_1, .int .i64 a1_2] 27)).cell? ⟨w.heap.size, 0, none⟩ = some (.int .i64 3) := by simp [go_sem]
  have k0_1 : (w.alloc (.cells #[.int .i64 3, .int .i64 a1_1, .int .i64 a1_2] 27)).cell? ⟨w.heap.size, 1, none⟩ = some (.int .i64 a1_1) := by simp [go_sem]
  have k0_2 : (w.alloc (.cells #[.int .i64 3, .int .i64 a1_1, .int .i64 a1_2] 27)).cell? ⟨w.heap.size, 2, none⟩ = some (.int .i64 a1_2) := by simp [go_sem]
  have lt0 : w.heap.size < (w.alloc (.cells #[.int .i64 3, .int .i64 a1_1, .int .i64 a1_2] 27)).heap.size := by simp only [World.size_alloc]; omega
  generalize w.alloc (.cells #[.int .i64 3, .int .i64 a1_1, .int .i64 a1_2] 27) = W at *
  clear lt0
  refine (ContainsFunc_Type (some ad) c0 l0 _ (Kd.C_below HR.out hb.out) HL.out).mono ?_
  rintro e W2 ⟨rfl, hb1⟩
  rw [HA.out]
  replace k0_0 := pw_cell_below hb1 k0_0
  replace k0_1 := pw_cell_below hb1 k0_1
  replace k0_2 := pw_cell_below hb1 k0_2
  have hB := Lib.hid (below_then hb.out hb.out.size hb1)
  clear hb hb1
  have y0 := pw_cell_below hB.out Y0.out
  have y1 := pw_cell_below hB.out Y1.out
  have y2 := pw_cell_below hB.out Y2.out
  go_wp2
  generalize rd_T63 l0 a1_1 = t at *
  replace k0_0 := cell_regrown k0_0
  replace k0_1 := cell_regrown k0_1
  replace k0_2 := cell_regrown k0_2
  replace y0 := cell_regrown y0
  replace y1 := cell_regrown y1
  replace y2 := cell_regrown y2
  have z1 := partition_kinds.at3
  have z2 := partition_kinds.fld3_0
  refine wp_region_quiet_below (by kernel_rfl) (by kernel_rfl) ?_
  repeat (first | go_big_quiet_step (first | exact Calls.regrown_of (partition_kinds.tab _) | exact Calls.regrown_of (HF.out _)) | quiet_step (first | exact Calls.regrown_of (partition_kinds.tab _) | exact Calls.regrown_of (HF.out _)))
  refine wpQuiet_nil ?_
  intro _ hw'
  obtain ⟨⟨dq, osq⟩, hw''⟩ := hw'
  subst hw''
  have hD := Lib.hid (below_regrown W2 dq osq)
  go_wp2
  go_ret
  exact ⟨rfl, below_then hB.out hB.out.size hD.out⟩
theorem partition_Valid.calls (A0 : Option Addr) (c0 : Nat) (l0 : List S63) (a1_0 a1_1 a1_2 : Int) (r : Bool) (w : World) (hr : Kd.C k63 w A0 l0.length l0) (hc : l0.length ≤ c0) (h : partition_Valid.f l0 a1_0 a1_1 a1_2 = some r) :
    Calls Tryz.prog 13 #[.slice A0 l0.length c0, .agg #[.int .i64 a1_0, .int .i64 a1_1, .int .i64 a1_2]] w fun e w' => e = .returned (.bool r) ∧ Below w.heap.size w w' := by
  unfold partition_Valid.f at h
  by_cases hl : l0.length ≤ 9223372036854775807
  case neg => rw [if_neg hl] at h; exact absurd h (by simp)
  rw [if_pos hl] at h
  cases ha : l0.any badType with
  | true =>
    rw [ha, if_pos rfl] at h
    obtain rfl := Option.some.inj h
    exact partition_Valid.bad A0 c0 l0 _ _ _ w hr hl ha
  | false =>
    rw [ha, if_neg (by decide)] at h
    by_cases h0 : a1_0 = 0
    · subst h0
      rw [if_pos rfl] at h
      obtain rfl := Option.some.inj h
      exact partition_Valid.zero A0 c0 l0 _ _ w hr hl ha
    rw [if_neg h0] at h
    have b0 : (a1_0 == 0) = false := by simpa using h0
    by_cases h1 : 0 < a1_0
    · by_cases h2 : a1_0 < 4
      · by_cases h3 : 0 ≤ a1_1
        · by_cases h4 : a1_1 < (l0.length : Int)
          · rw [if_pos ⟨h1, h2, h3, h4⟩] at h
            unfold partition_Valid.kind at h
            by_cases k1 : a1_0 = 1
            · subst k1
              rw [if_pos rfl] at h
              exact partition_Valid.case1 A0 c0 l0 _ _ w hr hl ha (decide_eq_true h3) (decide_eq_true h4) h3 h4 r (fun w => partition_kinds_1.calls _ _ _ _ _ w h)
            rw [if_neg k1] at h
            by_cases k2 : a1_0 = 2
            · subst k2
              rw [if_pos rfl] at h
              exact partition_Valid.case2 A0 c0 l0 _ _ w hr hl ha (decide_eq_true h3) (decide_eq_true h4) h3 h4 r (fun w => partition_kinds_2.calls _ _ _ _ _ w h)
            rw [if_neg k2] at h
            obtain rfl : a1_0 = 3 := by omega
            exact partition_Valid.case3 A0 c0 l0 _ _ w hr hl ha (decide_eq_true h3) (decide_eq_true h4) h3 h4 r (fun w => partition_truncates.calls _ _ _ _ _ w h)
          · rw [if_neg (fun z => h4 z.2.2.2)] at h
            obtain rfl := Option.some.inj h
            exact partition_Valid.high A0 c0 l0 _ _ _ w hr hl ha b0 (decide_eq_true h1) (decide_eq_true h2) (decide_eq_true h3) (decide_eq_false h4)
        · rw [if_neg (fun z => h3 z.2.2.1)] at h
          obtain rfl := Option.some.inj h
          exact partition_Valid.low A0 c0 l0 _ _ _ w hr hl ha b0 (decide_eq_true h1) (decide_eq_true h2) (decide_eq_false h3)
      · rw [if_neg (fun z => h2 z.2.1)] at h
        obtain rfl := Option.some.inj h
        exact partition_Valid.big A0 c0 l0 _ _ _ w hr hl ha b0 (decide_eq_true h1) (decide_eq_false h2)
    · rw [if_neg (fun z => h1 z.1)] at h
      obtain rfl := Option.some.inj h
      exact partition_Valid.neg A0 c0 l0 _ _ _ w hr hl ha b0 (decide_eq_false h1)
end Go.Proofs.YteflfnjljjianaaGreatDoor.Qx
namespace Go.Proofs.YteflfnjljjianaaGreatDoor.Qx
open Go.RowKit Go.Proofs.YteflfnjljjianaaGreatDoorW.PrintWords Go.Proofs.YteflfnjljjianaaGreatDoorW.PrintLast Go.Proofs.YteflfnjljjianaaGreatDoorW.PrintMore
attribute [local go_sem] max2_int min2_int max_two min_two
set_option linter.unusedVariables false
set_option linter.unusedSimpArgs false
def chapmanref06_Null.f  : Option (Int × Int × ByteArray) := some (0, 0, (⟨#[]⟩ : ByteArray))
set_option maxHeartbeats 8000000 in
set_option maxRecDepth 100000 in
theorem chapmanref06_Null.calls  (r1 : Int) (r2 : Int) (r3 : ByteArray) (w : World) (h : chapmanref06_Null.f  = some (r1, r2, r3)) :
    Calls Tryz.prog 15 #[] w fun e w' => e = .returned (.agg #[.int .i64 r1, .int .i64 r2, .string r3]) ∧ Below w.heap.size w w' := by
  have hu35 := Tryz.underlying35
  have HB := Aside0.mk (Below.refl w.heap.size w)
  have H : (some (0, 0, (⟨#[]⟩ : ByteArray))) = some (r1, r2, r3) := h
  clear h
  simp only [Option.some.injEq, Prod.mk.injEq] at H
  obtain ⟨rfl, rfl, rfl⟩ := H
  go_enter Tryz.func15, Tryz.ntmps15
  go_wp2_with (first | ((with_reducible refine gate_dst (N := 0) rfl ?_); refine box_event ?hg (N := 0) ?hd (cs := #[.int .i64 0, .int .i64 0, .string (⟨#[]⟩ : ByteArray)]) (t := 35) ?hr ?_; (case hd => rfl); (case hg => rfl); (case hr => first | (go_simp; done) | (go_simp; rfl)); intro gb101 hg w1 hbox hb; have n0_ := Aside0.mk (below_step (by repeat (first | (with_reducible first | exact HB.out | apply below_alloc | apply pw_below_drewN | apply below_drew1) | exact HB.out)) hb); have n1_ := Aside0.mk (hbox); have n2_ := Aside0.mk ((by rw [hg]; exact (below_size (by repeat (first | (with_reducible first | exact HB.out | apply below_alloc | apply pw_below_drewN | apply below_drew1) | exact HB.out))) : w.heap.size ≤ gb101)); have n3_ := Aside0.mk ((by rw [hg]; exact (below_size (by repeat (first | (with_reducible first | exact HB.out | apply below_alloc | apply pw_below_drewN | apply below_drew1) | exact HB.out))) : w.heap.size ≤ gb101)); clear HB; have HB := n0_; have BK101 := n1_; have GW101 := n2_; have GE101 := n3_; clear n0_ n1_ n2_ n3_; clear hb hbox hg; have hcz2_0 : w1.cell? ⟨gb101, 0, none⟩ = some (.int .i64 0) := (blk_cell BK101.out 0).trans rfl; have hcz2_1 : w1.cell? ⟨gb101, 1, none⟩ = some (.int .i64 0) := (blk_cell BK101.out 1).trans rfl; have hcz2_2 : w1.cell? ⟨gb101, 2, none⟩ = some (.string (⟨#[]⟩ : ByteArray)) := (blk_cell BK101.out 2).trans rfl; have hfz2_0 := blk_frozen BK101.out 0; have hfz2_1 := blk_frozen BK101.out 1; have hfz2_2 := blk_frozen BK101.out 2))
  refine bodyPost_ret (results_cell_row rfl _ _ gb101 35 #[.int .i64 0, .int .i64 0, .string (⟨#[]⟩ : ByteArray)] (0, 0) _ rfl (by (with_reducible repeat (first | refine blk_drewN ?_ _ | refine blk_drew ?_ | refine blk_alloc ?_ _)); refine blk_put (cs := #[.int .i64 0, .int .i64 0, .string (⟨#[]⟩ : ByteArray)]) ?_ 2 _ rfl; (with_reducible repeat (first | refine blk_drewN ?_ _ | refine blk_drew ?_ | refine blk_alloc ?_ _)); refine blk_put (cs := #[.int .i64 0, .int .i64 0, .string (⟨#[]⟩ : ByteArray)]) ?_ 1 _ rfl; (with_reducible repeat (first | refine blk_drewN ?_ _ | refine blk_drew ?_ | refine blk_alloc ?_ _)); refine blk_put (cs := #[.int .i64 0, .int .i64 0, .string (⟨#[]⟩ : ByteArray)]) ?_ 0 _ rfl; (with_reducible repeat (first | refine blk_drewN ?_ _ | refine blk_drew ?_ | refine blk_alloc ?_ _)); exact BK101.out) Tryz.underlying35 rfl (by kernel_rfl)) rfl ?_
  exact ⟨by first | rfl | (simp [errW_none, errW_some] <;> rfl) | (simp [*, errW_none, errW_some] <;> rfl), by repeat (first | (with_reducible first | exact HB.out | apply below_alloc | apply pw_below_drewN | apply below_drew1 | refine below_set ?_ GE101.out) | exact HB.out)⟩
end Go.Proofs.YteflfnjljjianaaGreatDoor.Qx
namespace Go.Proofs.YteflfnjljjianaaGreatDoor.Qx
open Go.RowKit Go.Proofs.YteflfnjljjianaaGreatDoorW.PrintWords Go.Proofs.YteflfnjljjianaaGreatDoorW.PrintLast Go.Proofs.YteflfnjljjianaaGreatDoorW.PrintMore
attribute [local go_sem] max2_int min2_int max_two min_two
set_option linter.unusedVariables false
set_option linter.unusedSimpArgs false
def chapmanref06_Num.f (a0 : Int) : Option (Int × Int × ByteArray) := some (2, a0, (⟨#[]⟩ : ByteArray))
set_option maxHeartbeats 8000000 in
set_option maxRecDepth 100000 in
theorem chapmanref06_Num.calls (a0 : Int) (r1 : Int) (r2 : Int) (r3 : ByteArray) (w : World) (h : chapmanref06_Num.f a0 = some (r1, r2, r3)) :
    Calls Tryz.prog 37 #[.int .i64 a0] w fun e w' => e = .returned (.agg #[.int .i64 r1, .int .i64 r2, .string r3]) ∧ Below w.heap.size w w' := by
  have hu35 := Tryz.underlying35
  have HB := Aside0.mk (Below.refl w.heap.size w)
  have H : (some (2, a0, (⟨#[]⟩ : ByteArray))) = some (r1, r2, r3) := h
  clear h
  simp only [Option.some.injEq, Prod.mk.injEq] at H
  obtain ⟨rfl, rfl, rfl⟩ := H
  go_enter Tryz.func37, Tryz.ntmps37
  go_wp2_with (first | ((with_reducible refine gate_dst (N := 2) rfl ?_); refine box_event ?hg (N := 2) ?hd (cs := #[.int .i64 0, .int .i64 0, .string (⟨#[]⟩ : ByteArray)]) (t := 35) ?hr ?_; (case hd => rfl); (case hg => rfl); (case hr => first | (go_simp; done) | (go_simp; rfl)); intro gb101 hg w2 hbox hb; have n0_ := Aside0.mk (below_step (by repeat (first | (with_reducible first | exact HB.out | apply below_alloc | apply pw_below_drewN | apply below_drew1) | exact HB.out)) hb); have n1_ := Aside0.mk (hbox); have n2_ := Aside0.mk ((by rw [hg]; exact (below_size (by repeat (first | (with_reducible first | exact HB.out | apply below_alloc | apply pw_below_drewN | apply below_drew1) | exact HB.out))) : w.heap.size ≤ gb101)); have n3_ := Aside0.mk ((by rw [hg]; exact (below_size (by repeat (first | (with_reducible first | exact HB.out | apply below_alloc | apply pw_below_drewN | apply below_drew1) | exact HB.out))) : w.heap.size ≤ gb101)); clear HB; have HB := n0_; have BK101 := n1_; have GW101 := n2_; have GE101 := n3_; clear n0_ n1_ n2_ n3_; clear hb hbox hg; have hcz3_0 : w2.cell? ⟨gb101, 0, none⟩ = some (.int .i64 0) := (blk_cell BK101.out 0).trans rfl; have hcz3_1 : w2.cell? ⟨gb101, 1, none⟩ = some (.int .i64 0) := (blk_cell BK101.out 1).trans rfl; have hcz3_2 : w2.cell? ⟨gb101, 2, none⟩ = some (.string (⟨#[]⟩ : ByteArray)) := (blk_cell BK101.out 2).trans rfl; have hfz3_0 := blk_frozen BK101.out 0; have hfz3_1 := blk_frozen BK101.out 1; have hfz3_2 := blk_frozen BK101.out 2))
  refine bodyPost_ret (results_cell_row rfl _ _ gb101 35 #[.int .i64 2, .int .i64 a0, .string (⟨#[]⟩ : ByteArray)] (0, 0) _ rfl (by (with_reducible repeat (first | refine blk_drewN ?_ _ | refine blk_drew ?_ | refine blk_alloc ?_ _)); refine blk_put (cs := #[.int .i64 2, .int .i64 a0, .string (⟨#[]⟩ : ByteArray)]) ?_ 2 _ rfl; (with_reducible repeat (first | refine blk_drewN ?_ _ | refine blk_drew ?_ | refine blk_alloc ?_ _)); refine blk_put (cs := #[.int .i64 2, .int .i64 0, .string (⟨#[]⟩ : ByteArray)]) ?_ 1 _ rfl; (with_reducible repeat (first | refine blk_drewN ?_ _ | refine blk_drew ?_ | refine blk_alloc ?_ _)); refine blk_put (cs := #[.int .i64 0, .int .i64 0, .string (⟨#[]⟩ : ByteArray)]) ?_ 0 _ rfl; (with_reducible repeat (first | refine blk_drewN ?_ _ | refine blk_drew ?_ | refine blk_alloc ?_ _)); exact BK101.out) Tryz.underlying35 rfl (by kernel_rfl)) rfl ?_
  exact ⟨by first | rfl | (simp [errW_none, errW_some] <;> rfl) | (simp [*, errW_none, errW_some] <;> rfl), by repeat (first | (with_reducible first | exact HB.out | apply below_alloc | apply pw_below_drewN | apply below_drew1 | refine below_set ?_ GE101.out) | exact HB.out)⟩
end Go.Proofs.YteflfnjljjianaaGreatDoor.Qx
namespace Go.Proofs.YteflfnjljjianaaGreatDoor.Qx
open Go.RowKit Go.Proofs.YteflfnjljjianaaGreatDoorW.PrintWords Go.Proofs.YteflfnjljjianaaGreatDoorW.PrintLast Go.Proofs.YteflfnjljjianaaGreatDoorW.PrintMore
attribute [local go_sem] max2_int min2_int max_two min_two
set_option linter.unusedVariables false
set_option linter.unusedSimpArgs false
def chapmanref06_Whole.f (a0 : Int) : Option (Int × Int × ByteArray) := (chapmanref06_Num.f (wrap64 (a0 * 1000000))).bind fun bt102 => (some (bt102.1, bt102.2.1, bt102.2.2))
set_option maxHeartbeats 8000000 in
set_option maxRecDepth 100000 in
theorem chapmanref06_Whole.calls (a0 : Int) (r1 : Int) (r2 : Int) (r3 : ByteArray) (w : World) (h : chapmanref06_Whole.f a0 = some (r1, r2, r3)) :
    Calls Tryz.prog 16 #[.int .i64 a0] w fun e w' => e = .returned (.agg #[.int .i64 r1, .int .i64 r2, .string r3]) ∧ Below w.heap.size w w' := by
  have hu35 := Tryz.underlying35
  have HB := Aside0.mk (Below.refl w.heap.size w)
  have H : ((chapmanref06_Num.f (wrap64 (a0 * 1000000))).bind fun bt102 => (some (bt102.1, bt102.2.1, bt102.2.2))) = some (r1, r2, r3) := h
  clear h
  replace H := Option.bind_eq_some_iff.mp H
  obtain ⟨⟨t102, t103, t104⟩, A20, H⟩ := H
  replace H : (some (t102, t103, t104)) = some (r1, r2, r3) := H
  have A2 := Aside0.mk A20
  clear A20
  simp only [Option.some.injEq, Prod.mk.injEq] at H
  obtain ⟨rfl, rfl, rfl⟩ := H
  go_enter Tryz.func16, Tryz.ntmps16
  go_wp2_with (first | ((with_reducible refine gate_dst (N := 2) rfl ?_); refine box_event ?hg (N := 2) ?hd (cs := #[.int .i64 0, .int .i64 0, .string (⟨#[]⟩ : ByteArray)]) (t := 35) ?hr ?_; (case hd => rfl); (case hg => rfl); (case hr => first | (go_simp; done) | (go_simp; rfl)); intro gb101 hg w3 hbox hb; have n0_ := Aside0.mk (below_step (by repeat (first | (with_reducible first | exact HB.out | apply below_alloc | apply pw_below_drewN | apply below_drew1) | exact HB.out)) hb); have n1_ := Aside0.mk (hbox); have n2_ := Aside0.mk ((by rw [hg]; exact (below_size (by repeat (first | (with_reducible first | exact HB.out | apply below_alloc | apply pw_below_drewN | apply below_drew1) | exact HB.out))) : w.heap.size ≤ gb101)); have n3_ := Aside0.mk ((by rw [hg]; exact (below_size (by repeat (first | (with_reducible first | exact HB.out | apply below_alloc | apply pw_below_drewN | apply below_drew1) | exact HB.out))) : w.heap.size ≤ gb101)); clear HB; have HB := n0_; have BK101 := n1_; have GW101 := n2_; have GE101 := n3_; clear n0_ n1_ n2_ n3_; clear hb hbox hg) | ((with_reducible refine gate_callee (f := 37) rfl ?_); refine goesL_ (some 5) rfl rfl Tryz.func37 (by kernel_rfl) rfl #[.int .i64 (wrap64 (a0 * 1000000))] rfl (by (try simp only [List.map_toArray, List.map_cons, List.map_nil]); first | done | rfl | (simp only [List.length_drop, List.length_take]; rfl)) ?_; (with_reducible refine (chapmanref06_Num.calls (wrap64 (a0 * 1000000)) t102 t103 t104 _ A2.out).mono ?_); rintro e w4 ⟨rfl, hb⟩; refine ⟨_, rfl, ?_⟩; have n0_ := Aside0.mk (blk_below (g := gb101) (o := .cells #[.int .i64 0, .int .i64 0, .string (⟨#[]⟩ : ByteArray)] 35 (0, 0)) (by (with_reducible repeat (first | refine blk_drewN ?_ _ | refine blk_drew ?_ | refine blk_alloc ?_ _)); exact BK101.out) hb); have n1_ := Aside0.mk (below_step (by repeat (first | (with_reducible first | exact HB.out | apply below_alloc | apply pw_below_drewN | apply below_drew1 | refine below_set ?_ GE101.out) | exact HB.out)) hb); clear BK101; clear HB; have BK101 := n0_; have HB := n1_; clear n0_ n1_; (try clear hb); (try clear hb2); (try clear hk); (try clear hi); have hcz5_0 : w4.cell? ⟨gb101, 0, none⟩ = some (.int .i64 0) := (blk_cell BK101.out 0).trans rfl; have hcz5_1 : w4.cell? ⟨gb101, 1, none⟩ = some (.int .i64 0) := (blk_cell BK101.out 1).trans rfl; have hcz5_2 : w4.cell? ⟨gb101, 2, none⟩ = some (.string (⟨#[]⟩ : ByteArray)) := (blk_cell BK101.out 2).trans rfl; have hfz5_0 := blk_frozen BK101.out 0; have hfz5_1 := blk_frozen BK101.out 1; have hfz5_2 := blk_frozen BK101.out 2))
  refine bodyPost_ret (results_cell_row rfl _ _ gb101 35 #[.int .i64 t102, .int .i64 t103, .string t104] (0, 0) _ rfl (by (with_reducible repeat (first | refine blk_drewN ?_ _ | refine blk_drew ?_ | refine blk_alloc ?_ _)); refine blk_put (cs := #[.int .i64 t102, .int .i64 t103, .string (⟨#[]⟩ : ByteArray)]) ?_ 2 _ rfl; (with_reducible repeat (first | refine blk_drewN ?_ _ | refine blk_drew ?_ | refine blk_alloc ?_ _)); refine blk_put (cs := #[.int .i64 t102, .int .i64 0, .string (⟨#[]⟩ : ByteArray)]) ?_ 1 _ rfl; (with_reducible repeat (first | refine blk_drewN ?_ _ | refine blk_drew ?_ | refine blk_alloc ?_ _)); refine blk_put (cs := #[.int .i64 0, .int .i64 0, .string (⟨#[]⟩ : ByteArray)]) ?_ 0 _ rfl; (with_reducible repeat (first | refine blk_drewN ?_ _ | refine blk_drew ?_ | refine blk_alloc ?_ _)); exact BK101.out) Tryz.underlying35 rfl (by kernel_rfl)) rfl ?_
  exact ⟨by first | rfl | (simp [errW_none, errW_some] <;> rfl) | (simp [*, errW_none, errW_some] <;> rfl), by repeat (first | (with_reducible first | exact HB.out | apply below_alloc | apply pw_below_drewN | apply below_drew1 | refine below_set ?_ GE101.out) | exact HB.out)⟩
end Go.Proofs.YteflfnjljjianaaGreatDoor.Qx
namespace Go.Proofs.YteflfnjljjianaaGreatDoor.Qx
open Go.RowKit Go.Proofs.YteflfnjljjianaaGreatDoorW.PrintWords Go.Proofs.YteflfnjljjianaaGreatDoorW.PrintLast Go.Proofs.YteflfnjljjianaaGreatDoorW.PrintMore
attribute [local go_sem] max2_int min2_int max_two min_two
set_option linter.unusedVariables false
set_option linter.unusedSimpArgs false
set_option maxRecDepth 100000 in
set_option maxHeartbeats 4000000 in
theorem chapmanref06_CmpList.eq (A0 : Option Addr) (c0 : Nat) (A1 : Option Addr) (c1 : Nat) (l : List S35) (w : World) (hr0 : Kd.C k35 w A0 l.length l) (hr1 : Kd.C k35 w A1 l.length l) (hx : ∀ x ∈ l, chapmanref06_Cmp.f 100 x.f0 x.f1 x.f2 x.f0 x.f1 x.f2 = some 0) (hl : l.length ≤ 1000000) :
    Calls Tryz.prog 68 #[.slice A0 l.length c0, .slice A1 l.length c1] w fun e w' => e = .returned (.int .i64 0) ∧ Below w.heap.size w w' := by
  have hu28 := Tryz.underlying28
  have hu35 := Tryz.underlying35
  have HR0 := Lib.hid hr0
  have HR1 := Lib.hid hr1
  have HX := Lib.hid hx
  have HD := Lib.hid hl
  clear hr0 hr1 hx
  go_enter Tryz.func68, Tryz.ntmps68
  go_wp2
  go_loopw [5, 6] (fun s5 s6 wr => ∃ (j : Nat), s5 = .int .i64 j ∧ j ≤ l.length ∧ Below w.heap.size w wr) (fun s5 _ _ => l.length - (intOf s5).toNat)
  case atStart => exact ⟨0, rfl, Nat.zero_le _, Below.refl _ _⟩
  case round =>
    obtain ⟨j, rfl, hj, hB⟩ := hrel
    by_cases hlt : j < l.length
    · have hd : decide ((j : Int) < (l.length : Int)) = true := decide_eq_true (by omega)
      obtain ⟨ad, e0, x0, x1, x2⟩ := at_T35 (Kd.C_below HR0.out hB) (j : Int) (by omega) (by omega)
      obtain ⟨ad', e0', y0, y1, y2⟩ := at_T35 (Kd.C_below HR1.out hB) (j : Int) (by omega) (by omega)
      have hm : rd_T35 l (j : Int) ∈ l := by
        unfold rd_T35
        rw [Int.toNat_natCast, List.getD_eq_getElem?_getD, List.getElem?_eq_getElem hlt]
        exact List.getElem_mem _
      have HC := Lib.hid (HX.out _ hm)
      simp only [Int.toNat_natCast] at x0 x1 x2 y0 y1 y2
      replace x0 := cell_regrown x0
      replace x1 := cell_regrown x1
      replace x2 := cell_regrown x2
      replace y0 := cell_regrown y0
      replace y1 := cell_regrown y1
      replace y2 := cell_regrown y2
      subst e0 e0'
      clear hm
      generalize rd_T35 l (j : Int) = x at *
      have HB := Lib.hid hB
      clear hB
      go_wp2
      refine wp_region_quiet_below (by kernel_rfl) (by kernel_rfl) ?_
      repeat (first | go_big_quiet_step (exact Calls.regrown_of (chapmanref06_Cmp.calls 100 _ _ _ _ _ _ 0 _ HC.out)) | quiet_step (exact Calls.regrown_of (chapmanref06_Cmp.calls 100 _ _ _ _ _ _ 0 _ HC.out)))
      refine wpQuiet_nil ?_
      intro _ hw'
      obtain ⟨⟨dq, osq⟩, hw''⟩ := hw'
      subst hw''
      replace HB := Lib.hid (below_step HB.out (below_regrown wr dq osq))
      clear x0 x1 x2 y0 y1 y2
      go_wp2
      refine ⟨⟨j + 1, by simp, by omega, HB.out⟩, by simp [intOf]; omega⟩
    · have hd : decide ((j : Int) < (l.length : Int)) = false := decide_eq_false (by omega)
      have HB := Lib.hid hB
      clear hB
      go_wp2_with fail
      refine (chapmanref06_sign.calls _ _ 0 _ (by unfold chapmanref06_sign.f; rw [if_neg (by omega), if_neg (by omega)])).mono ?_
      rintro e w2 ⟨rfl, hdr⟩
      obtain ⟨n2, rfl⟩ := hdr.out
      replace HB := Lib.hid (pw_below_drewN HB.out n2)
      go_wp2
      go_ret
      exact ⟨rfl, HB.out⟩
end Go.Proofs.YteflfnjljjianaaGreatDoor.Qx
namespace Go.Proofs.YteflfnjljjianaaGreatDoor.Qx
open Go.RowKit Go.Proofs.YteflfnjljjianaaGreatDoorW.PrintWords Go.Proofs.YteflfnjljjianaaGreatDoorW.PrintLast Go.Proofs.YteflfnjljjianaaGreatDoorW.PrintMore
attribute [local go_sem] max2_int min2_int max_two min_two
set_option linter.unusedVariables false
set_option linter.unusedSimpArgs false
set_option maxRecDepth 100000 in
theorem chapmanref06_Same.eq (A0 : Option Addr) (c0 : Nat) (A1 : Option Addr) (c1 : Nat) (l : List S35) (w : World) (hr0 : Kd.C k35 w A0 l.length l) (hr1 : Kd.C k35 w A1 l.length l) (hx : ∀ x ∈ l, chapmanref06_Cmp.f 100 x.f0 x.f1 x.f2 x.f0 x.f1 x.f2 = some 0) (hl : l.length ≤ 1000000) :
    Calls Tryz.prog 34 #[.slice A0 l.length c0, .slice A1 l.length c1] w fun e w' => e = .returned (.bool true) ∧ Below w.heap.size w w' := by
  have HC := Lib.hid (chapmanref06_CmpList.eq A0 c0 A1 c1 l w hr0 hr1 hx hl)
  clear hr0 hr1 hx hl
  go_enter Tryz.func34, Tryz.ntmps34
  go_wp2_with fail
  refine HC.out.mono ?_
  rintro e w2 ⟨rfl, hb⟩
  go_wp2
  go_ret
  exact ⟨rfl, hb⟩
end Go.Proofs.YteflfnjljjianaaGreatDoor.Qx
namespace Go.Proofs.YteflfnjljjianaaGreatDoor.Qx
open Go.RowKit Go.Proofs.YteflfnjljjianaaGreatDoorW.PrintWords Go.Proofs.YteflfnjljjianaaGreatDoorW.PrintLast Go.Proofs.YteflfnjljjianaaGreatDoorW.PrintMore
attribute [local go_sem] max2_int min2_int max_two min_two
set_option linter.unusedVariables false
set_option linter.unusedSimpArgs false
theorem int_at {X : World} {A : Option Addr} {xs : List Int} (h : Kd.C (Kd.int .i64) X A xs.length xs) {j : Nat} (hj : j < xs.length) : ∃ ad, A = some ad ∧ X.cell? (ad.add j) = some (.int .i64 (xs.getD j 0)) := by
  obtain ⟨ad, c, e, _, hK, hc⟩ := Kd.C_get h (0 : Int) (j : Int) (by omega) (by omega)
  have e1 : c = [.int .i64 (xs.getD ((j : Int).toNat) 0)] := hK
  rw [Int.toNat_natCast] at e1
  subst e1
  have hq : X.cell? (ad.add ((j : Int).toNat * 1 + 0)) = some (.int .i64 (xs.getD j 0)) := hc 0 _ rfl
  rw [Int.toNat_natCast, Nat.mul_one, Nat.add_zero] at hq
  exact ⟨ad, e, hq⟩
theorem rows_at {X : World} {A : Option Addr} {xs : List (List Int)} (h : Kd.C (Kd.slice 3 (Kd.int .i64)) X A xs.length xs) {j : Nat} (hj : j < xs.length) :
    ∃ ad A0 c0, A = some ad ∧ X.cell? (ad.add j) = some (.slice A0 (xs.getD j []).length c0) ∧ Kd.C (Kd.int .i64) X A0 (xs.getD j []).length (xs.getD j []) := by
  obtain ⟨ad, c, e, _, hK, hc0⟩ := Kd.C_get h ([] : List Int) (j : Int) (by omega) (by omega)
  have hc : ∀ i u, c[i]? = some u → X.cell? (ad.add ((j : Int).toNat * 1 + i)) = some u := hc0
  obtain ⟨A0, c0, rfl, _, h3⟩ := hK
  have h1 := hc 0 _ rfl
  rw [Nat.mul_one, Nat.add_zero] at h1
  rw [Int.toNat_natCast] at h1 h3
  exact ⟨ad, A0, c0, e, h1, h3⟩
set_option maxRecDepth 100000 in
set_option maxHeartbeats 8000000 in
theorem chapmanref32_Same.eq (A0 : Option Addr) (c0 : Nat) (A1 : Option Addr) (c1 : Nat) (l : List S35) (B0 : Option Addr) (d0 : Nat) (B1 : Option Addr) (d1 : Nat) (gs : List (List Int)) (w : World) (hr0 : Kd.C k35 w A0 l.length l) (hr1 : Kd.C k35 w A1 l.length l)
    (hs0 : Kd.C (Kd.slice 3 (Kd.int .i64)) w B0 gs.length gs) (hs1 : Kd.C (Kd.slice 3 (Kd.int .i64)) w B1 gs.length gs) (hx : ∀ x ∈ l, chapmanref06_Cmp.f 100 x.f0 x.f1 x.f2 x.f0 x.f1 x.f2 = some 0) (hl : l.length ≤ 1000000) (hg : gs.length ≤ 1000000) (hgi : ∀ g ∈ gs, g.length ≤ 1000000) :
    Calls Tryz.prog 18 #[.agg #[.slice A0 l.length c0, .slice B0 gs.length d0], .agg #[.slice A1 l.length c1, .slice B1 gs.length d1]] w fun e w' => e = .returned (.bool true) ∧ Below w.heap.size w w' := by
  have hu28 := Tryz.underlying28
  have hu47 := Tryz.underlying47
  have hu49 := Tryz.underlying49
  have hu75 := Tryz.underlying75
  have HR0 := Lib.hid hr0
  have HR1 := Lib.hid hr1
  have HS0 := Lib.hid hs0
  have HS1 := Lib.hid hs1
  have HX := Lib.hid hx
  have HL := Lib.hid hl
  have HI := Lib.hid hgi
  clear hr0 hr1 hs0 hs1 hx hl hgi
  go_enter Tryz.func18, Tryz.ntmps18
  go_wp2_with fail
  have E0 := blk_alloc (heap_alloc_new w (.cells #[.slice A0 l.length c0, .slice B0 gs.length d0] 49)) (.cells #[.slice A1 l.length c1, .slice B1 gs.length d1] 49)
  have E1 := heap_alloc_new (w.alloc (.cells #[.slice A0 l.length c0, .slice B0 gs.length d0] 49)) (.cells #[.slice A1 l.length c1, .slice B1 gs.length d1] 49)
  have hB := below_alloc (below_alloc (Below.refl w.heap.size w) (.cells #[.slice A0 l.length c0, .slice B0 gs.length d0] 49)) (.cells #[.slice A1 l.length c1, .slice B1 gs.length d1] 49)
  simp only [World.size_alloc] at E1
  generalize (w.alloc (.cells #[.slice A0 l.length c0, .slice B0 gs.length d0] 49)).alloc (.cells #[.slice A1 l.length c1, .slice B1 gs.length d1] 49) = W at *
  refine (chapmanref06_Same.eq A0 c0 A1 c1 l W (Kd.C_below HR0.out hB) (Kd.C_below HR1.out hB) HX.out HL.out).mono ?_
  rintro e w1 ⟨rfl, hb⟩
  have F : ∀ X, Below w1.heap.size w1 X → (X.cell? ⟨w.heap.size, 0, none⟩ = some (.slice A0 l.length c0) ∧ X.cell? ⟨w.heap.size, 1, none⟩ = some (.slice B0 gs.length d0) ∧ X.cell? ⟨w.heap.size + 1, 0, none⟩ = some (.slice A1 l.length c1) ∧ X.cell? ⟨w.heap.size + 1, 1, none⟩ = some (.slice B1 gs.length d1)) ∧ Kd.C (Kd.slice 3 (Kd.int .i64)) X B0 gs.length gs ∧ Kd.C (Kd.slice 3 (Kd.int .i64)) X B1 gs.length gs ∧ Below w.heap.size w X := fun X hX => by
    have e0 := blk_below (blk_below E0 hb) hX
    have e1 := blk_below (blk_below E1 hb) hX
    exact ⟨⟨(blk_cell e0 0).trans rfl, (blk_cell e0 1).trans rfl, (blk_cell e1 0).trans rfl, (blk_cell e1 1).trans rfl⟩, Kd.C_below (Kd.C_below (Kd.C_below HS0.out hB) hb) hX, Kd.C_below (Kd.C_below (Kd.C_below HS1.out hB) hb) hX, below_step (below_step hB hb) hX⟩
  have HF := Lib.hid F
  obtain ⟨⟨k0, k1, k2, k3⟩, _⟩ := F w1 (Below.refl _ _)
  clear F E0 E1 hB hb W HR0 HR1 HS0 HS1
  go_wp2
  clear k0 k1 k2 k3
  go_loopw [5, 6] (fun s5 s6 wr => ∃ (i : Nat), s5 = .int .i64 i ∧ i ≤ gs.length ∧ ∃ n, wr = w1.drewN n) (fun s5 _ _ => gs.length - (intOf s5).toNat)
  case atStart => exact ⟨0, rfl, Nat.zero_le _, 0, rfl⟩
  case round =>
    obtain ⟨i, rfl, hi, nd, rfl⟩ := hrel
    obtain ⟨⟨k0, k1, k2, k3⟩, hq0, hq1, hBB⟩ := HF.out w1 (Below.refl _ _)
    by_cases hlt : i < gs.length
    · have hd : decide ((i : Int) < (gs.length : Int)) = true := decide_eq_true (by omega)
      obtain ⟨a0, P0, e0, rfl, x0, y0⟩ := rows_at hq0 hlt
      obtain ⟨a1, P1, e1, rfl, x1, y1⟩ := rows_at hq1 hlt
      have hgl : (gs.getD i []).length ≤ 1000000 := HI.out _ (by rw [List.getD_eq_getElem?_getD, List.getElem?_eq_getElem hlt]; exact List.getElem_mem _)
      generalize gs.getD i [] = g at *
      have ge : (((g.length : Int)) != (g.length : Int)) = false := by simp
      go_wp2
      go_quiet (fail)
      go_wp2
      have Y0 := Lib.hid y0
      have Y1 := Lib.hid y1
      clear y0 y1
      go_loopw [6] (fun s6 wr => ∃ (j : Nat), s6 = .int .i64 j ∧ j ≤ g.length ∧ ∃ n, wr = w1.drewN n) (fun s6 _ => g.length - (intOf s6).toNat)
      case atStart => exact ⟨0, rfl, Nat.zero_le _, ⟨_, World.drewN_drewN _ _ _⟩⟩
      case round =>
        obtain ⟨j, rfl, hj, nj, rfl⟩ := hrel
        by_cases hjt : j < g.length
        · have hd2 : decide ((j : Int) < (g.length : Int)) = true := decide_eq_true (by omega)
          obtain ⟨z0, rfl, v0⟩ := int_at Y0.out hjt
          obtain ⟨z1, rfl, v1⟩ := int_at Y1.out hjt
          generalize g.getD j 0 = v at *
          have ve : (v != v) = false := by simp
          go_wp2
          go_quiet (fail)
          go_wp2
          exact ⟨⟨j + 1, by simp, by omega, _, rfl⟩, by simp [intOf]; omega⟩
        · have hd2 : decide ((j : Int) < (g.length : Int)) = false := decide_eq_false (by omega)
          go_wp2
          exact ⟨⟨i + 1, by simp, by omega, _, rfl⟩, by simp [intOf]; omega⟩
    · have hd : decide ((i : Int) < (gs.length : Int)) = false := decide_eq_false (by omega)
      go_wp2
      go_ret
      exact ⟨rfl, pw_below_drewN hBB nd⟩
end Go.Proofs.YteflfnjljjianaaGreatDoor.Qx
namespace Go.Proofs.YteflfnjljjianaaGreatDoor.Qx
open Go.RowKit Go.Proofs.YteflfnjljjianaaGreatDoorW.PrintWords Go.Proofs.YteflfnjljjianaaGreatDoorW.PrintLast Go.Proofs.YteflfnjljjianaaGreatDoorW.PrintMore
attribute [local go_sem] max2_int min2_int max_two min_two
set_option linter.unusedVariables false
set_option linter.unusedSimpArgs false
attribute [local go_sem high] eqA35
def value_checks_1.f (a0_0 : Int) (a0_1 : Int) (a0_2 : ByteArray) (a1 : Int) : Option (Bool) := some (a0_0 == 0 && (a0_1 == 0 && (a0_2.toList == ([] : List UInt8))))
set_option maxHeartbeats 8000000 in
set_option maxRecDepth 100000 in
theorem value_checks_1.calls (a0_0 : Int) (a0_1 : Int) (a0_2 : ByteArray) (a1 : Int) (r : Bool) (w : World) (h : value_checks_1.f a0_0 a0_1 a0_2 a1 = some r) :
    Calls Tryz.prog 160 #[.agg #[.int .i64 a0_0, .int .i64 a0_1, .string a0_2], .int .i64 a1] w fun e w' => e = .returned (.bool r) ∧ Below w.heap.size w w' := by
  have hu35 := Tryz.underlying35
  have HB := Aside0.mk (Below.refl w.heap.size w)
  have H : (some (a0_0 == 0 && (a0_1 == 0 && (a0_2.toList == ([] : List UInt8))))) = some r := h
  clear h
  obtain rfl := Option.some.inj H
  go_enter Tryz.func160, Tryz.ntmps160
  go_wp2_with (first | ((with_reducible refine gate_dst (N := 2) rfl ?_); refine box_event ?hg (N := 2) ?hd (cs := #[.int .i64 a0_0, .int .i64 a0_1, .string a0_2]) (t := 35) ?hr ?_; (case hd => rfl); (case hg => rfl); (case hr => first | (go_simp; done) | (go_simp; rfl)); intro gb101 hg w3 hbox hb; have n0_ := Aside0.mk (below_step (by repeat (first | (with_reducible first | exact HB.out | apply below_alloc | apply pw_below_drewN | apply below_drew1) | exact HB.out)) hb); have n1_ := Aside0.mk (hbox); have n2_ := Aside0.mk ((by rw [hg]; exact (below_size (by repeat (first | (with_reducible first | exact HB.out | apply below_alloc | apply pw_below_drewN | apply below_drew1) | exact HB.out))) : w.heap.size ≤ gb101)); have n3_ := Aside0.mk ((by rw [hg]; exact (below_size (by repeat (first | (with_reducible first | exact HB.out | apply below_alloc | apply pw_below_drewN | apply below_drew1) | exact HB.out))) : w.heap.size ≤ gb101)); clear HB; have HB := n0_; have BK101 := n1_; have GW101 := n2_; have GE101 := n3_; clear n0_ n1_ n2_ n3_; clear hb hbox hg; have hcz4_0 : w3.cell? ⟨gb101, 0, none⟩ = some (.int .i64 a0_0) := (blk_cell BK101.out 0).trans rfl; have hcz4_1 : w3.cell? ⟨gb101, 1, none⟩ = some (.int .i64 a0_1) := (blk_cell BK101.out 1).trans rfl; have hcz4_2 : w3.cell? ⟨gb101, 2, none⟩ = some (.string a0_2) := (blk_cell BK101.out 2).trans rfl; have hfz4_0 := blk_frozen BK101.out 0; have hfz4_1 := blk_frozen BK101.out 1; have hfz4_2 := blk_frozen BK101.out 2))
  go_ret
  exact ⟨by first | rfl | (simp [errW_none, errW_some] <;> rfl) | (simp [*, errW_none, errW_some] <;> rfl), by repeat (first | (with_reducible first | exact HB.out | apply below_alloc | apply pw_below_drewN | apply below_drew1 | refine below_set ?_ GE101.out) | exact HB.out)⟩
end Go.Proofs.YteflfnjljjianaaGreatDoor.Qx
namespace Go.Proofs.YteflfnjljjianaaGreatDoor.Qx
open Go.RowKit Go.Proofs.YteflfnjljjianaaGreatDoorW.PrintWords Go.Proofs.YteflfnjljjianaaGreatDoorW.PrintLast Go.Proofs.YteflfnjljjianaaGreatDoorW.PrintMore
attribute [local go_sem] max2_int min2_int max_two min_two
set_option linter.unusedVariables false
set_option linter.unusedSimpArgs false
def value_checks_2.f (a0_0 : Int) (a0_1 : Int) (a0_2 : ByteArray) (a1 : Int) : Option (Bool) := if (Go.bits .andNot .i64 a0_1 1) = 0 then (some (a0_2.toList == ([] : List UInt8))) else (some false)
set_option maxHeartbeats 8000000 in
set_option maxRecDepth 100000 in
theorem value_checks_2.calls (a0_0 : Int) (a0_1 : Int) (a0_2 : ByteArray) (a1 : Int) (r : Bool) (w : World) (h : value_checks_2.f a0_0 a0_1 a0_2 a1 = some r) :
    Calls Tryz.prog 161 #[.agg #[.int .i64 a0_0, .int .i64 a0_1, .string a0_2], .int .i64 a1] w fun e w' => e = .returned (.bool r) ∧ Below w.heap.size w w' := by
  have hu35 := Tryz.underlying35
  have HB := Aside0.mk (Below.refl w.heap.size w)
  have H : (if (Go.bits .andNot .i64 a0_1 1) = 0 then (some (a0_2.toList == ([] : List UInt8))) else (some false)) = some r := h
  clear h
  by_cases c3 : (Go.bits .andNot .i64 a0_1 1) = 0
  · rw [if_pos c3] at H
    have c3b0 : ((Go.bits .andNot .i64 a0_1 1) == 0) = true := beq_iff_eq.mpr c3
    have c3b1 : ((Go.bits .andNot .i64 a0_1 1) != 0) = false := bne_eq_false_iff_eq.mpr c3
    clear c3
    obtain rfl := Option.some.inj H
    go_enter Tryz.func161, Tryz.ntmps161
    go_wp2_with (first | ((with_reducible refine gate_dst (N := 2) rfl ?_); refine box_event ?hg (N := 2) ?hd (cs := #[.int .i64 a0_0, .int .i64 a0_1, .string a0_2]) (t := 35) ?hr ?_; (case hd => rfl); (case hg => rfl); (case hr => first | (go_simp; done) | (go_simp; rfl)); intro gb101 hg w4 hbox hb; have n0_ := Aside0.mk (below_step (by repeat (first | (with_reducible first | exact HB.out | apply below_alloc | apply pw_below_drewN | apply below_drew1) | exact HB.out)) hb); have n1_ := Aside0.mk (hbox); have n2_ := Aside0.mk ((by rw [hg]; exact (below_size (by repeat (first | (with_reducible first | exact HB.out | apply below_alloc | apply pw_below_drewN | apply below_drew1) | exact HB.out))) : w.heap.size ≤ gb101)); have n3_ := Aside0.mk ((by rw [hg]; exact (below_size (by repeat (first | (with_reducible first | exact HB.out | apply below_alloc | apply pw_below_drewN | apply below_drew1) | exact HB.out))) : w.heap.size ≤ gb101)); clear HB; have HB := n0_; have BK101 := n1_; have GW101 := n2_; have GE101 := n3_; clear n0_ n1_ n2_ n3_; clear hb hbox hg; have hcz5_0 : w4.cell? ⟨gb101, 0, none⟩ = some (.int .i64 a0_0) := (blk_cell BK101.out 0).trans rfl; have hcz5_1 : w4.cell? ⟨gb101, 1, none⟩ = some (.int .i64 a0_1) := (blk_cell BK101.out 1).trans rfl; have hcz5_2 : w4.cell? ⟨gb101, 2, none⟩ = some (.string a0_2) := (blk_cell BK101.out 2).trans rfl; have hfz5_0 := blk_frozen BK101.out 0; have hfz5_1 := blk_frozen BK101.out 1; have hfz5_2 := blk_frozen BK101.out 2))
    go_ret
    exact ⟨by first | rfl | (simp [errW_none, errW_some] <;> rfl) | (simp [*, errW_none, errW_some] <;> rfl), by repeat (first | (with_reducible first | exact HB.out | apply below_alloc | apply pw_below_drewN | apply below_drew1 | refine below_set ?_ GE101.out) | exact HB.out)⟩
  · rw [if_neg c3] at H
    have c3b0 : ((Go.bits .andNot .i64 a0_1 1) == 0) = false := beq_eq_false_iff_ne.mpr c3
    have c3b1 : ((Go.bits .andNot .i64 a0_1 1) != 0) = true := bne_iff_ne.mpr c3
    obtain rfl := Option.some.inj H
    go_enter Tryz.func161, Tryz.ntmps161
    go_wp2_with (first | ((with_reducible refine gate_dst (N := 2) rfl ?_); refine box_event ?hg (N := 2) ?hd (cs := #[.int .i64 a0_0, .int .i64 a0_1, .string a0_2]) (t := 35) ?hr ?_; (case hd => rfl); (case hg => rfl); (case hr => first | (go_simp; done) | (go_simp; rfl)); intro gb101 hg w6 hbox hb; have n0_ := Aside0.mk (below_step (by repeat (first | (with_reducible first | exact HB.out | apply below_alloc | apply pw_below_drewN | apply below_drew1) | exact HB.out)) hb); have n1_ := Aside0.mk (hbox); have n2_ := Aside0.mk ((by rw [hg]; exact (below_size (by repeat (first | (with_reducible first | exact HB.out | apply below_alloc | apply pw_below_drewN | apply below_drew1) | exact HB.out))) : w.heap.size ≤ gb101)); have n3_ := Aside0.mk ((by rw [hg]; exact (below_size (by repeat (first | (with_reducible first | exact HB.out | apply below_alloc | apply pw_below_drewN | apply below_drew1) | exact HB.out))) : w.heap.size ≤ gb101)); clear HB; have HB := n0_; have BK101 := n1_; have GW101 := n2_; have GE101 := n3_; clear n0_ n1_ n2_ n3_; clear hb hbox hg; have hcz7_0 : w6.cell? ⟨gb101, 0, none⟩ = some (.int .i64 a0_0) := (blk_cell BK101.out 0).trans rfl; have hcz7_1 : w6.cell? ⟨gb101, 1, none⟩ = some (.int .i64 a0_1) := (blk_cell BK101.out 1).trans rfl; have hcz7_2 : w6.cell? ⟨gb101, 2, none⟩ = some (.string a0_2) := (blk_cell BK101.out 2).trans rfl; have hfz7_0 := blk_frozen BK101.out 0; have hfz7_1 := blk_frozen BK101.out 1; have hfz7_2 := blk_frozen BK101.out 2))
    go_ret
    exact ⟨by first | rfl | (simp [errW_none, errW_some] <;> rfl) | (simp [*, errW_none, errW_some] <;> rfl), by repeat (first | (with_reducible first | exact HB.out | apply below_alloc | apply pw_below_drewN | apply below_drew1 | refine below_set ?_ GE101.out) | exact HB.out)⟩
end Go.Proofs.YteflfnjljjianaaGreatDoor.Qx
namespace Go.Proofs.YteflfnjljjianaaGreatDoor.Qx
open Go.RowKit Go.Proofs.YteflfnjljjianaaGreatDoorW.PrintWords Go.Proofs.YteflfnjljjianaaGreatDoorW.PrintLast Go.Proofs.YteflfnjljjianaaGreatDoorW.PrintMore
attribute [local go_sem] max2_int min2_int max_two min_two
set_option linter.unusedVariables false
set_option linter.unusedSimpArgs false
def value_checks_3.f (a0_0 : Int) (a0_1 : Int) (a0_2 : ByteArray) (a1 : Int) : Option (Bool) := if a0_1 ≥ (wrap64 (-a1)) then (if a0_1 ≤ a1 then (some (a0_2.toList == ([] : List UInt8))) else (some false)) else (some false)
set_option maxHeartbeats 8000000 in
set_option maxRecDepth 100000 in
theorem value_checks_3.calls (a0_0 : Int) (a0_1 : Int) (a0_2 : ByteArray) (a1 : Int) (r : Bool) (w : World) (h : value_checks_3.f a0_0 a0_1 a0_2 a1 = some r) :
    Calls Tryz.prog 162 #[.agg #[.int .i64 a0_0, .int .i64 a0_1, .string a0_2], .int .i64 a1] w fun e w' => e = .returned (.bool r) ∧ Below w.heap.size w w' := by
  have hu35 := Tryz.underlying35
  have HB := Aside0.mk (Below.refl w.heap.size w)
  have H : (if a0_1 ≥ (wrap64 (-a1)) then (if a0_1 ≤ a1 then (some (a0_2.toList == ([] : List UInt8))) else (some false)) else (some false)) = some r := h
  clear h
  by_cases c3 : a0_1 ≥ (wrap64 (-a1))
  · rw [if_pos c3] at H
    have c3b0 : decide ((wrap64 (-a1)) ≤ a0_1) = true := decide_eq_true c3
    clear c3
    by_cases c4 : a0_1 ≤ a1
    · rw [if_pos c4] at H
      have c4b0 : decide (a0_1 ≤ a1) = true := decide_eq_true c4
      clear c4
      obtain rfl := Option.some.inj H
      go_enter Tryz.func162, Tryz.ntmps162
      go_wp2_with (first | ((with_reducible refine gate_dst (N := 2) rfl ?_); refine box_event ?hg (N := 2) ?hd (cs := #[.int .i64 a0_0, .int .i64 a0_1, .string a0_2]) (t := 35) ?hr ?_; (case hd => rfl); (case hg => rfl); (case hr => first | (go_simp; done) | (go_simp; rfl)); intro gb101 hg w5 hbox hb; have n0_ := Aside0.mk (below_step (by repeat (first | (with_reducible first | exact HB.out | apply below_alloc | apply pw_below_drewN | apply below_drew1) | exact HB.out)) hb); have n1_ := Aside0.mk (hbox); have n2_ := Aside0.mk ((by rw [hg]; exact (below_size (by repeat (first | (with_reducible first | exact HB.out | apply below_alloc | apply pw_below_drewN | apply below_drew1) | exact HB.out))) : w.heap.size ≤ gb101)); have n3_ := Aside0.mk ((by rw [hg]; exact (below_size (by repeat (first | (with_reducible first | exact HB.out | apply below_alloc | apply pw_below_drewN | apply below_drew1) | exact HB.out))) : w.heap.size ≤ gb101)); clear HB; have HB := n0_; have BK101 := n1_; have GW101 := n2_; have GE101 := n3_; clear n0_ n1_ n2_ n3_; clear hb hbox hg; have hcz6_0 : w5.cell? ⟨gb101, 0, none⟩ = some (.int .i64 a0_0) := (blk_cell BK101.out 0).trans rfl; have hcz6_1 : w5.cell? ⟨gb101, 1, none⟩ = some (.int .i64 a0_1) := (blk_cell BK101.out 1).trans rfl; have hcz6_2 : w5.cell? ⟨gb101, 2, none⟩ = some (.string a0_2) := (blk_cell BK101.out 2).trans rfl; have hfz6_0 := blk_frozen BK101.out 0; have hfz6_1 := blk_frozen BK101.out 1; have hfz6_2 := blk_frozen BK101.out 2))
      go_ret
      exact ⟨by first | rfl | (simp [errW_none, errW_some] <;> rfl) | (simp [*, errW_none, errW_some] <;> rfl), by repeat (first | (with_reducible first | exact HB.out | apply below_alloc | apply pw_below_drewN | apply below_drew1 | refine below_set ?_ GE101.out) | exact HB.out)⟩
    · rw [if_neg c4] at H
      have c4b0 : decide (a0_1 ≤ a1) = false := decide_eq_false c4
      clear c4
      obtain rfl := Option.some.inj H
      go_enter Tryz.func162, Tryz.ntmps162
      go_wp2_with (first | ((with_reducible refine gate_dst (N := 2) rfl ?_); refine box_event ?hg (N := 2) ?hd (cs := #[.int .i64 a0_0, .int .i64 a0_1, .string a0_2]) (t := 35) ?hr ?_; (case hd => rfl); (case hg => rfl); (case hr => first | (go_simp; done) | (go_simp; rfl)); intro gb101 hg w7 hbox hb; have n0_ := Aside0.mk (below_step (by repeat (first | (with_reducible first | exact HB.out | apply below_alloc | apply pw_below_drewN | apply below_drew1) | exact HB.out)) hb); have n1_ := Aside0.mk (hbox); have n2_ := Aside0.mk ((by rw [hg]; exact (below_size (by repeat (first | (with_reducible first | exact HB.out | apply below_alloc | apply pw_below_drewN | apply below_drew1) | exact HB.out))) : w.heap.size ≤ gb101)); have n3_ := Aside0.mk ((by rw [hg]; exact (below_size (by repeat (first | (with_reducible first | exact HB.out | apply below_alloc | apply pw_below_drewN | apply below_drew1) | exact HB.out))) : w.heap.size ≤ gb101)); clear HB; have HB := n0_; have BK101 := n1_; have GW101 := n2_; have GE101 := n3_; clear n0_ n1_ n2_ n3_; clear hb hbox hg; have hcz8_0 : w7.cell? ⟨gb101, 0, none⟩ = some (.int .i64 a0_0) := (blk_cell BK101.out 0).trans rfl; have hcz8_1 : w7.cell? ⟨gb101, 1, none⟩ = some (.int .i64 a0_1) := (blk_cell BK101.out 1).trans rfl; have hcz8_2 : w7.cell? ⟨gb101, 2, none⟩ = some (.string a0_2) := (blk_cell BK101.out 2).trans rfl; have hfz8_0 := blk_frozen BK101.out 0; have hfz8_1 := blk_frozen BK101.out 1; have hfz8_2 := blk_frozen BK101.out 2))
      go_ret
      exact ⟨by first | rfl | (simp [errW_none, errW_some] <;> rfl) | (simp [*, errW_none, errW_some] <;> rfl), by repeat (first | (with_reducible first | exact HB.out | apply below_alloc | apply pw_below_drewN | apply below_drew1 | refine below_set ?_ GE101.out) | exact HB.out)⟩
  · rw [if_neg c3] at H
    have c3b0 : decide ((wrap64 (-a1)) ≤ a0_1) = false := decide_eq_false c3
    clear c3
    obtain rfl := Option.some.inj H
    go_enter Tryz.func162, Tryz.ntmps162
    go_wp2_with (first | ((with_reducible refine gate_dst (N := 2) rfl ?_); refine box_event ?hg (N := 2) ?hd (cs := #[.int .i64 a0_0, .int .i64 a0_1, .string a0_2]) (t := 35) ?hr ?_; (case hd => rfl); (case hg => rfl); (case hr => first | (go_simp; done) | (go_simp; rfl)); intro gb101 hg w9 hbox hb; have n0_ := Aside0.mk (below_step (by repeat (first | (with_reducible first | exact HB.out | apply below_alloc | apply pw_below_drewN | apply below_drew1) | exact HB.out)) hb); have n1_ := Aside0.mk (hbox); have n2_ := Aside0.mk ((by rw [hg]; exact (below_size (by repeat (first | (with_reducible first | exact HB.out | apply below_alloc | apply pw_below_drewN | apply below_drew1) | exact HB.out))) : w.heap.size ≤ gb101)); have n3_ := Aside0.mk ((by rw [hg]; exact (below_size (by repeat (first | (with_reducible first | exact HB.out | apply below_alloc | apply pw_below_drewN | apply below_drew1) | exact HB.out))) : w.heap.size ≤ gb101)); clear HB; have HB := n0_; have BK101 := n1_; have GW101 := n2_; have GE101 := n3_; clear n0_ n1_ n2_ n3_; clear hb hbox hg; have hcz10_0 : w9.cell? ⟨gb101, 0, none⟩ = some (.int .i64 a0_0) := (blk_cell BK101.out 0).trans rfl; have hcz10_1 : w9.cell? ⟨gb101, 1, none⟩ = some (.int .i64 a0_1) := (blk_cell BK101.out 1).trans rfl; have hcz10_2 : w9.cell? ⟨gb101, 2, none⟩ = some (.string a0_2) := (blk_cell BK101.out 2).trans rfl; have hfz10_0 := blk_frozen BK101.out 0; have hfz10_1 := blk_frozen BK101.out 1; have hfz10_2 := blk_frozen BK101.out 2))
    go_ret
    exact ⟨by first | rfl | (simp [errW_none, errW_some] <;> rfl) | (simp [*, errW_none, errW_some] <;> rfl), by repeat (first | (with_reducible first | exact HB.out | apply below_alloc | apply pw_below_drewN | apply below_drew1 | refine below_set ?_ GE101.out) | exact HB.out)⟩
end Go.Proofs.YteflfnjljjianaaGreatDoor.Qx
namespace Go.Proofs.YteflfnjljjianaaGreatDoor.Qx
open Go.RowKit Go.Proofs.YteflfnjljjianaaGreatDoorW.PrintWords Go.Proofs.YteflfnjljjianaaGreatDoorW.PrintLast Go.Proofs.YteflfnjljjianaaGreatDoorW.PrintMore
attribute [local go_sem] max2_int min2_int max_two min_two
set_option linter.unusedVariables false
set_option linter.unusedSimpArgs false
def value_graphic.l0 : Nat → ByteArray → Int → Int → Option (Bool)
  | 0, _, _, _ => none
  | k + 1, x0, x5, x6 => if x6 < x5 then (if 0 ≤ x6 then (if x6 < (x0.size : Int) then (if (bt x0 x6) < 32 then (some false) else (if (bt x0 x6) > 126 then (some false) else (value_graphic.l0 k x0 x5 (wrap64 (x6 + 1))))) else (none)) else (none)) else (some true)
def value_graphic.f (k : Nat) (a0 : ByteArray) : Option (Bool) := value_graphic.l0 k a0 (a0.size : Int) 0
set_option maxHeartbeats 8000000 in
set_option maxRecDepth 100000 in
theorem value_graphic.calls (k : Nat) (a0 : ByteArray) (r : Bool) (w : World) (h : value_graphic.f k a0 = some r) :
    Calls Tryz.prog 164 #[.string a0] w fun e w' => e = .returned (.bool r) ∧ Drawn0 w w' := by
  have H : (value_graphic.l0 k a0 (a0.size : Int) 0) = some r := h
  clear h
  have H' := Aside0.mk H
  clear H
  go_enter Tryz.func164, Tryz.ntmps164
  go_wp2
  go_loopg [6] k (fun kq v6 w' => ∃ (x6_1 : Int), v6 = .int .i64 x6_1 ∧ Aside0 (value_graphic.l0 kq a0 (a0.size : Int) x6_1 = some r) ∧ Aside0 (kq ≤ k) ∧ Drawn0 w w')
  case atStart => exact ⟨(0), (by first | rfl | (simp; done) | (simp [*]; done)), H', ⟨Nat.le_refl _⟩, by repeat (first | exact Drawn0.refl _ | apply Drawn0.step)⟩
  case round =>
    clear H'
    try clear c1
    obtain ⟨x6_1, rfl, HA, HK1, ⟨m1, rfl⟩⟩ := hrel
    cases gk with
    | zero => exact absurd HA.out (by simp [value_graphic.l0])
    | succ k1 =>
      have H := HA.out
      clear HA
      simp only [value_graphic.l0] at H
      by_cases c2 : x6_1 < (a0.size : Int)
      · rw [if_pos c2] at H
        have c2b0 : decide (x6_1 < (a0.size : Int)) = true := decide_eq_true c2
        clear c2
        by_cases c3 : 0 ≤ x6_1
        · rw [if_pos c3] at H
          have c3b0 : decide (0 ≤ x6_1) = true := decide_eq_true c3
          clear c3
          by_cases c4 : x6_1 < (a0.size : Int)
          · rw [if_pos c4] at H
            have c4b0 : decide (x6_1 < (a0.size : Int)) = true := decide_eq_true c4
            clear c4
            by_cases c6 : (bt a0 x6_1) < 32
            · rw [if_pos c6] at H
              have c6b0 : decide ((bt a0 x6_1) < 32) = true := decide_eq_true c6
              clear c6
              obtain rfl := Option.some.inj H
              have p5 : 0 ≤ (x6_1 : Int) := of_decide_eq_true (by first | (with_reducible assumption) | assumption)
              have q5 : x6_1 < (a0.size : Int) := of_decide_eq_true (by first | (with_reducible assumption) | assumption)
              have hx5 := bt_at a0 x6_1
              replace p5 := eq_true p5
              replace q5 := eq_true q5
              go_wp2
              go_ret
              exact ⟨by first | rfl | (simp; done) | (simp [*]; done), by repeat (first | exact Drawn0.refl _ | apply Drawn0.step)⟩
            · rw [if_neg c6] at H
              have c6b0 : decide ((bt a0 x6_1) < 32) = false := decide_eq_false c6
              clear c6
              by_cases c8 : (bt a0 x6_1) > 126
              · rw [if_pos c8] at H
                have c8b0 : decide (126 < (bt a0 x6_1)) = true := decide_eq_true c8
                clear c8
                obtain rfl := Option.some.inj H
                have p5 : 0 ≤ (x6_1 : Int) := of_decide_eq_true (by first | (with_reducible assumption) | assumption)
                have q5 : x6_1 < (a0.size : Int) := of_decide_eq_true (by first | (with_reducible assumption) | assumption)
                have hx5 := bt_at a0 x6_1
                replace p5 := eq_true p5
                replace q5 := eq_true q5
                have p7 : 0 ≤ (x6_1 : Int) := of_decide_eq_true (by first | (with_reducible assumption) | assumption)
                have q7 : x6_1 < (a0.size : Int) := of_decide_eq_true (by first | (with_reducible assumption) | assumption)
                have hx7 := bt_at a0 x6_1
                replace p7 := eq_true p7
                replace q7 := eq_true q7
                go_wp2
                go_ret
                exact ⟨by first | rfl | (simp; done) | (simp [*]; done), by repeat (first | exact Drawn0.refl _ | apply Drawn0.step)⟩
              · rw [if_neg c8] at H
                have c8b0 : decide (126 < (bt a0 x6_1)) = false := decide_eq_false c8
                clear c8
                have H' := Aside0.mk H
                clear H
                have p5 : 0 ≤ (x6_1 : Int) := of_decide_eq_true (by first | (with_reducible assumption) | assumption)
                have q5 : x6_1 < (a0.size : Int) := of_decide_eq_true (by first | (with_reducible assumption) | assumption)
                have hx5 := bt_at a0 x6_1
                replace p5 := eq_true p5
                replace q5 := eq_true q5
                have p7 : 0 ≤ (x6_1 : Int) := of_decide_eq_true (by first | (with_reducible assumption) | assumption)
                have q7 : x6_1 < (a0.size : Int) := of_decide_eq_true (by first | (with_reducible assumption) | assumption)
                have hx7 := bt_at a0 x6_1
                replace p7 := eq_true p7
                replace q7 := eq_true q7
                go_wp2
                go_roundg k1
                case measure => have := HK1.out; omega
                case rel => exact ⟨(wrap64 (x6_1 + 1)), (by first | rfl | (simp; done) | (simp [*]; done)), H', ⟨by have := HK1.out; omega⟩, by repeat (first | exact Drawn0.refl _ | apply Drawn0.step)⟩
          · rw [if_neg c4] at H
            exact absurd H (by simp)
        · rw [if_neg c3] at H
          exact absurd H (by simp)
      · rw [if_neg c2] at H
        have c2b0 : decide (x6_1 < (a0.size : Int)) = false := decide_eq_false c2
        clear c2
        obtain rfl := Option.some.inj H
        go_wp2
        go_ret
        exact ⟨by first | rfl | (simp; done) | (simp [*]; done), by repeat (first | exact Drawn0.refl _ | apply Drawn0.step)⟩
end Go.Proofs.YteflfnjljjianaaGreatDoor.Qx
namespace Go.Proofs.YteflfnjljjianaaGreatDoor.Qx
open Go.RowKit Go.Proofs.YteflfnjljjianaaGreatDoorW.PrintWords Go.Proofs.YteflfnjljjianaaGreatDoorW.PrintLast Go.Proofs.YteflfnjljjianaaGreatDoorW.PrintMore
attribute [local go_sem] max2_int min2_int max_two min_two
set_option linter.unusedVariables false
set_option linter.unusedSimpArgs false
def value_checks_4.f (k : Nat) (a0_0 : Int) (a0_1 : Int) (a0_2 : ByteArray) (a1 : Int) : Option (Bool) := if a0_1 = 0 then (if (a0_2.size : Int) ≤ 40 then ((value_graphic.f k a0_2).bind fun t102 => (some t102)) else (some false)) else (some false)
set_option maxHeartbeats 8000000 in
set_option maxRecDepth 100000 in
theorem value_checks_4.calls (k : Nat) (a0_0 : Int) (a0_1 : Int) (a0_2 : ByteArray) (a1 : Int) (r : Bool) (w : World) (h : value_checks_4.f k a0_0 a0_1 a0_2 a1 = some r) :
    Calls Tryz.prog 163 #[.agg #[.int .i64 a0_0, .int .i64 a0_1, .string a0_2], .int .i64 a1] w fun e w' => e = .returned (.bool r) ∧ Below w.heap.size w w' := by
  have hu35 := Tryz.underlying35
  have HB := Aside0.mk (Below.refl w.heap.size w)
  have H : (if a0_1 = 0 then (if (a0_2.size : Int) ≤ 40 then ((value_graphic.f k a0_2).bind fun t102 => (some t102)) else (some false)) else (some false)) = some r := h
  clear h
  by_cases c3 : a0_1 = 0
  · rw [if_pos c3] at H
    have c3b0 : (a0_1 == 0) = true := beq_iff_eq.mpr c3
    have c3b1 : (a0_1 != 0) = false := bne_eq_false_iff_eq.mpr c3
    clear c3
    by_cases c4 : (a0_2.size : Int) ≤ 40
    · rw [if_pos c4] at H
      have c4b0 : decide ((a0_2.size : Int) ≤ 40) = true := decide_eq_true c4
      have c4b1 : decide (a0_2.size ≤ 40) = true := decide_eq_true (by omega)
      clear c4
      replace H := Option.bind_eq_some_iff.mp H
      obtain ⟨t102, A50, H⟩ := H
      replace H : (some t102) = some r := H
      have A5 := Aside0.mk A50
      clear A50
      obtain rfl := Option.some.inj H
      go_enter Tryz.func163, Tryz.ntmps163
      go_wp2_with (first | ((with_reducible refine gate_dst (N := 2) rfl ?_); (try (refine gate_guard (by rfl) ?_; dsimp only)); refine box_event ?hg (N := 2) ?hd (cs := #[.int .i64 a0_0, .int .i64 a0_1, .string a0_2]) (t := 35) ?hr ?_; (case hd => rfl); (case hg => rfl); (case hr => first | (go_simp; done) | (go_simp; rfl)); intro gb101 hg w6 hbox hb; have n0_ := Aside0.mk (below_step (by repeat (first | (with_reducible first | exact HB.out | apply below_alloc | apply pw_below_drewN | apply below_drew1) | exact HB.out)) hb); have n1_ := Aside0.mk (hbox); have n2_ := Aside0.mk ((by rw [hg]; exact (below_size (by repeat (first | (with_reducible first | exact HB.out | apply below_alloc | apply pw_below_drewN | apply below_drew1) | exact HB.out))) : w.heap.size ≤ gb101)); have n3_ := Aside0.mk ((by rw [hg]; exact (below_size (by repeat (first | (with_reducible first | exact HB.out | apply below_alloc | apply pw_below_drewN | apply below_drew1) | exact HB.out))) : w.heap.size ≤ gb101)); clear HB; have HB := n0_; have BK101 := n1_; have GW101 := n2_; have GE101 := n3_; clear n0_ n1_ n2_ n3_; clear hb hbox hg; have hcz7_0 : w6.cell? ⟨gb101, 0, none⟩ = some (.int .i64 a0_0) := (blk_cell BK101.out 0).trans rfl; have hcz7_1 : w6.cell? ⟨gb101, 1, none⟩ = some (.int .i64 a0_1) := (blk_cell BK101.out 1).trans rfl; have hcz7_2 : w6.cell? ⟨gb101, 2, none⟩ = some (.string a0_2) := (blk_cell BK101.out 2).trans rfl; have hfz7_0 := blk_frozen BK101.out 0; have hfz7_1 := blk_frozen BK101.out 1; have hfz7_2 := blk_frozen BK101.out 2) | (go_at_call 164; (with_reducible refine (value_graphic.calls k a0_2 t102 _ A5.out).mono ?_); rintro e w' ⟨rfl, ⟨nd, rfl⟩⟩))
      go_ret
      exact ⟨by first | rfl | (simp [errW_none, errW_some] <;> rfl) | (simp [*, errW_none, errW_some] <;> rfl), by repeat (first | (with_reducible first | exact HB.out | apply below_alloc | apply pw_below_drewN | apply below_drew1 | refine below_set ?_ GE101.out) | exact HB.out)⟩
    · rw [if_neg c4] at H
      have c4b0 : decide ((a0_2.size : Int) ≤ 40) = false := decide_eq_false c4
      have c4b1 : decide (a0_2.size ≤ 40) = false := decide_eq_false (by omega)
      clear c4
      obtain rfl := Option.some.inj H
      go_enter Tryz.func163, Tryz.ntmps163
      go_wp2_with (first | ((with_reducible refine gate_dst (N := 2) rfl ?_); (try (refine gate_guard (by rfl) ?_; dsimp only)); refine box_event ?hg (N := 2) ?hd (cs := #[.int .i64 a0_0, .int .i64 a0_1, .string a0_2]) (t := 35) ?hr ?_; (case hd => rfl); (case hg => rfl); (case hr => first | (go_simp; done) | (go_simp; rfl)); intro gb101 hg w8 hbox hb; have n0_ := Aside0.mk (below_step (by repeat (first | (with_reducible first | exact HB.out | apply below_alloc | apply pw_below_drewN | apply below_drew1) | exact HB.out)) hb); have n1_ := Aside0.mk (hbox); have n2_ := Aside0.mk ((by rw [hg]; exact (below_size (by repeat (first | (with_reducible first | exact HB.out | apply below_alloc | apply pw_below_drewN | apply below_drew1) | exact HB.out))) : w.heap.size ≤ gb101)); have n3_ := Aside0.mk ((by rw [hg]; exact (below_size (by repeat (first | (with_reducible first | exact HB.out | apply below_alloc | apply pw_below_drewN | apply below_drew1) | exact HB.out))) : w.heap.size ≤ gb101)); clear HB; have HB := n0_; have BK101 := n1_; have GW101 := n2_; have GE101 := n3_; clear n0_ n1_ n2_ n3_; clear hb hbox hg; have hcz9_0 : w8.cell? ⟨gb101, 0, none⟩ = some (.int .i64 a0_0) := (blk_cell BK101.out 0).trans rfl; have hcz9_1 : w8.cell? ⟨gb101, 1, none⟩ = some (.int .i64 a0_1) := (blk_cell BK101.out 1).trans rfl; have hcz9_2 : w8.cell? ⟨gb101, 2, none⟩ = some (.string a0_2) := (blk_cell BK101.out 2).trans rfl; have hfz9_0 := blk_frozen BK101.out 0; have hfz9_1 := blk_frozen BK101.out 1; have hfz9_2 := blk_frozen BK101.out 2))
      go_ret
      exact ⟨by first | rfl | (simp [errW_none, errW_some] <;> rfl) | (simp [*, errW_none, errW_some] <;> rfl), by repeat (first | (with_reducible first | exact HB.out | apply below_alloc | apply pw_below_drewN | apply below_drew1 | refine below_set ?_ GE101.out) | exact HB.out)⟩
  · rw [if_neg c3] at H
    have c3b0 : (a0_1 == 0) = false := beq_eq_false_iff_ne.mpr c3
    have c3b1 : (a0_1 != 0) = true := bne_iff_ne.mpr c3
    obtain rfl := Option.some.inj H
    go_enter Tryz.func163, Tryz.ntmps163
    go_wp2_with (first | ((with_reducible refine gate_dst (N := 2) rfl ?_); (try (refine gate_guard (by rfl) ?_; dsimp only)); refine box_event ?hg (N := 2) ?hd (cs := #[.int .i64 a0_0, .int .i64 a0_1, .string a0_2]) (t := 35) ?hr ?_; (case hd => rfl); (case hg => rfl); (case hr => first | (go_simp; done) | (go_simp; rfl)); intro gb101 hg w10 hbox hb; have n0_ := Aside0.mk (below_step (by repeat (first | (with_reducible first | exact HB.out | apply below_alloc | apply pw_below_drewN | apply below_drew1) | exact HB.out)) hb); have n1_ := Aside0.mk (hbox); have n2_ := Aside0.mk ((by rw [hg]; exact (below_size (by repeat (first | (with_reducible first | exact HB.out | apply below_alloc | apply pw_below_drewN | apply below_drew1) | exact HB.out))) : w.heap.size ≤ gb101)); have n3_ := Aside0.mk ((by rw [hg]; exact (below_size (by repeat (first | (with_reducible first | exact HB.out | apply below_alloc | apply pw_below_drewN | apply below_drew1) | exact HB.out))) : w.heap.size ≤ gb101)); clear HB; have HB := n0_; have BK101 := n1_; have GW101 := n2_; have GE101 := n3_; clear n0_ n1_ n2_ n3_; clear hb hbox hg; have hcz11_0 : w10.cell? ⟨gb101, 0, none⟩ = some (.int .i64 a0_0) := (blk_cell BK101.out 0).trans rfl; have hcz11_1 : w10.cell? ⟨gb101, 1, none⟩ = some (.int .i64 a0_1) := (blk_cell BK101.out 1).trans rfl; have hcz11_2 : w10.cell? ⟨gb101, 2, none⟩ = some (.string a0_2) := (blk_cell BK101.out 2).trans rfl; have hfz11_0 := blk_frozen BK101.out 0; have hfz11_1 := blk_frozen BK101.out 1; have hfz11_2 := blk_frozen BK101.out 2))
    go_ret
    exact ⟨by first | rfl | (simp [errW_none, errW_some] <;> rfl) | (simp [*, errW_none, errW_some] <;> rfl), by repeat (first | (with_reducible first | exact HB.out | apply below_alloc | apply pw_below_drewN | apply below_drew1 | refine below_set ?_ GE101.out) | exact HB.out)⟩
end Go.Proofs.YteflfnjljjianaaGreatDoor.Qx
namespace Go.Proofs.YteflfnjljjianaaGreatDoor.Qx
open Go.RowKit Go.Proofs.YteflfnjljjianaaGreatDoorW.PrintWords Go.Proofs.YteflfnjljjianaaGreatDoorW.PrintLast Go.Proofs.YteflfnjljjianaaGreatDoorW.PrintMore
attribute [local go_sem] max2_int min2_int max_two min_two
set_option linter.unusedVariables false
set_option linter.unusedSimpArgs false
def value_check.f (k : Nat) (a0_0 : Int) (a0_1 : Int) (a0_2 : ByteArray) (a1 : Int) : Option Bool :=
  if a0_0 = 0 then value_checks_1.f a0_0 a0_1 a0_2 a1 else if a0_0 = 1 then value_checks_2.f a0_0 a0_1 a0_2 a1 else if a0_0 = 2 then value_checks_3.f a0_0 a0_1 a0_2 a1 else if a0_0 = 3 then value_checks_4.f k a0_0 a0_1 a0_2 a1 else some false
theorem value_checks.tab (w : World) : Calls Tryz.prog 136 #[] w fun e w' => e = .returned (.agg #[.func (.func 160) #[] #[], .func (.func 161) #[] #[], .func (.func 162) #[] #[], .func (.func 163) #[] #[]]) ∧ Below w.heap.size w w' := by
  have hu := Tryz.underlying170
  go_enter Tryz.func136, Tryz.ntmps136
  go_wp2
  refine bodyPost_ret (v := .agg #[.func (.func 160) #[] #[], .func (.func 161) #[] #[], .func (.func 162) #[] #[], .func (.func 163) #[] #[]]) (by simp [results, Tryz.results136, go_sem]) rfl ⟨rfl, ?_⟩
  exact (Below.refl _ w).alloc (Nat.le_refl _) _
set_option maxRecDepth 100000 in
set_option maxHeartbeats 1000000 in
theorem value_check.case0 (i : Int) (s : ByteArray) (most : Int) (r : Bool) (w : World) (hf : ∀ w, Calls Tryz.prog 160 #[.agg #[.int .i64 0, .int .i64 i, .string s], .int .i64 most] w fun e w' => e = .returned (.bool r) ∧ Below w.heap.size w w') :
    Calls Tryz.prog 104 #[.agg #[.int .i64 0, .int .i64 i, .string s], .int .i64 most] w fun e w' => e = .returned (.bool r) ∧ Below w.heap.size w w' := by
  have hu35 := Tryz.underlying35
  have HF := Lib.hid hf
  clear hf
  have hi : ∀ w, (Instr.index 170 (.agg #[.func (.func 160) #[] #[], .func (.func 161) #[] #[], .func (.func 162) #[] #[], .func (.func 163) #[] #[]]) (.int .i64 0)).run Tryz.prog w = .ok (.func (.func 160) #[] #[]) w := fun _ => by kernel_rfl
  go_enter Tryz.func104, Tryz.ntmps104
  go_wp2
  have hb := Lib.hid ((Below.refl _ w).alloc (Nat.le_refl _) (.cells #[.int .i64 0, .int .i64 i, .string s] 35))
  have k0 : (w.alloc (.cells #[.int .i64 0, .int .i64 i, .string s] 35)).cell? ⟨w.heap.size, 0, none⟩ = some (.int .i64 0) := by simp [go_sem]
  have k1 : (w.alloc (.cells #[.int .i64 0, .int .i64 i, .string s] 35)).cell? ⟨w.heap.size, 1, none⟩ = some (.int .i64 i) := by simp [go_sem]
  have k2 : (w.alloc (.cells #[.int .i64 0, .int .i64 i, .string s] 35)).cell? ⟨w.heap.size, 2, none⟩ = some (.string s) := by simp [go_sem]
  generalize w.alloc (.cells #[.int .i64 0, .int .i64 i, .string s] 35) = W at *
  replace k0 := cell_regrown k0
  replace k1 := cell_regrown k1
  replace k2 := cell_regrown k2
  refine wp_region_quiet_below (by kernel_rfl) (by kernel_rfl) ?_
  repeat (go_big_quiet_step (first | exact Calls.regrown_of (value_checks.tab _) | exact Calls.regrown_of (HF.out _)))
  refine wpQuiet_nil ?_
  intro _ hw'
  obtain ⟨⟨dq, osq⟩, hw''⟩ := hw'
  subst hw''
  go_wp2
  go_ret
  exact ⟨rfl, below_then hb.out hb.out.size (below_regrown W dq osq)⟩
set_option maxRecDepth 100000 in
set_option maxHeartbeats 1000000 in
theorem value_check.case1 (i : Int) (s : ByteArray) (most : Int) (r : Bool) (w : World) (hf : ∀ w, Calls Tryz.prog 161 #[.agg #[.int .i64 1, .int .i64 i, .string s], .int .i64 most] w fun e w' => e = .returned (.bool r) ∧ Below w.heap.size w w') :
    Calls Tryz.prog 104 #[.agg #[.int .i64 1, .int .i64 i, .string s], .int .i64 most] w fun e w' => e = .returned (.bool r) ∧ Below w.heap.size w w' := by
  have hu35 := Tryz.underlying35
  have HF := Lib.hid hf
  clear hf
  have hi : ∀ w, (Instr.index 170 (.agg #[.func (.func 160) #[] #[], .func (.func 161) #[] #[], .func (.func 162) #[] #[], .func (.func 163) #[] #[]]) (.int .i64 1)).run Tryz.prog w = .ok (.func (.func 161) #[] #[]) w := fun _ => by kernel_rfl
  go_enter Tryz.func104, Tryz.ntmps104
  go_wp2
  have hb := Lib.hid ((Below.refl _ w).alloc (Nat.le_refl _) (.cells #[.int .i64 1, .int .i64 i, .string s] 35))
  have k0 : (w.alloc (.cells #[.int .i64 1, .int .i64 i, .string s] 35)).cell? ⟨w.heap.size, 0, none⟩ = some (.int .i64 1) := by simp [go_sem]
  have k1 : (w.alloc (.cells #[.int .i64 1, .int .i64 i, .string s] 35)).cell? ⟨w.heap.size, 1, none⟩ = some (.int .i64 i) := by simp [go_sem]
  have k2 : (w.alloc (.cells #[.int .i64 1, .int .i64 i, .string s] 35)).cell? ⟨w.heap.size, 2, none⟩ = some (.string s) := by simp [go_sem]
  generalize w.alloc (.cells #[.int .i64 1, .int .i64 i, .string s] 35) = W at *
  replace k0 := cell_regrown k0
  replace k1 := cell_regrown k1
  replace k2 := cell_regrown k2
  refine wp_region_quiet_below (by kernel_rfl) (by kernel_rfl) ?_
  repeat (go_big_quiet_step (first | exact Calls.regrown_of (value_checks.tab _) | exact Calls.regrown_of (HF.out _)))
  refine wpQuiet_nil ?_
  intro _ hw'
  obtain ⟨⟨dq, osq⟩, hw''⟩ := hw'
  subst hw''
  go_wp2
  go_ret
  exact ⟨rfl, below_then hb.out hb.out.size (below_regrown W dq osq)⟩
set_option maxRecDepth 100000 in
set_option maxHeartbeats 1000000 in
theorem value_check.case2 (i : Int) (s : ByteArray) (most : Int) (r : Bool) (w : World) (hf : ∀ w, Calls Tryz.prog 162 #[.agg #[.int .i64 2, .int .i64 i, .string s], .int .i64 most] w fun e w' => e = .returned (.bool r) ∧ Below w.heap.size w w') :
    Calls Tryz.prog 104 #[.agg #[.int .i64 2, .int .i64 i, .string s], .int .i64 most] w fun e w' => e = .returned (.bool r) ∧ Below w.heap.size w w' := by
  have hu35 := Tryz.underlying35
  have HF := Lib.hid hf
  clear hf
  have hi : ∀ w, (Instr.index 170 (.agg #[.func (.func 160) #[] #[], .func (.func 161) #[] #[], .func (.func 162) #[] #[], .func (.func 163) #[] #[]]) (.int .i64 2)).run Tryz.prog w = .ok (.func (.func 162) #[] #[]) w := fun _ => by kernel_rfl
  go_enter Tryz.func104, Tryz.ntmps104
  go_wp2
  have hb := Lib.hid ((Below.refl _ w).alloc (Nat.le_refl _) (.cells #[.int .i64 2, .int .i64 i, .string s] 35))
  have k0 : (w.alloc (.cells #[.int .i64 2, .int .i64 i, .string s] 35)).cell? ⟨w.heap.size, 0, none⟩ = some (.int .i64 2) := by simp [go_sem]
  have k1 : (w.alloc (.cells #[.int .i64 2, .int .i64 i, .string s] 35)).cell? ⟨w.heap.size, 1, none⟩ = some (.int .i64 i) := by simp [go_sem]
  have k2 : (w.alloc (.cells #[.int .i64 2, .int .i64 i, .string s] 35)).cell? ⟨w.heap.size, 2, none⟩ = some (.string s) := by simp [go_sem]
  generalize w.alloc (.cells #[.int .i64 2, .int .i64 i, .string s] 35) = W at *
  replace k0 := cell_regrown k0
  replace k1 := cell_regrown k1
  replace k2 := cell_regrown k2
  refine wp_region_quiet_below (by kernel_rfl) (by kernel_rfl) ?_
  repeat (go_big_quiet_step (first | exact Calls.regrown_of (value_checks.tab _) | exact Calls.regrown_of (HF.out _)))
  refine wpQuiet_nil ?_
  intro _ hw'
  obtain ⟨⟨dq, osq⟩, hw''⟩ := hw'
  subst hw''
  go_wp2
  go_ret
  exact ⟨rfl, below_then hb.out hb.out.size (below_regrown W dq osq)⟩
set_option maxRecDepth 100000 in
set_option maxHeartbeats 1000000 in
theorem value_check.case3 (i : Int) (s : ByteArray) (most : Int) (r : Bool) (w : World) (hf : ∀ w, Calls Tryz.prog 163 #[.agg #[.int .i64 3, .int .i64 i, .string s], .int .i64 most] w fun e w' => e = .returned (.bool r) ∧ Below w.heap.size w w') :
    Calls Tryz.prog 104 #[.agg #[.int .i64 3, .int .i64 i, .string s], .int .i64 most] w fun e w' => e = .returned (.bool r) ∧ Below w.heap.size w w' := by
  have hu35 := Tryz.underlying35
  have HF := Lib.hid hf
  clear hf
  have hi : ∀ w, (Instr.index 170 (.agg #[.func (.func 160) #[] #[], .func (.func 161) #[] #[], .func (.func 162) #[] #[], .func (.func 163) #[] #[]]) (.int .i64 3)).run Tryz.prog w = .ok (.func (.func 163) #[] #[]) w := fun _ => by kernel_rfl
  go_enter Tryz.func104, Tryz.ntmps104
  go_wp2
  have hb := Lib.hid ((Below.refl _ w).alloc (Nat.le_refl _) (.cells #[.int .i64 3, .int .i64 i, .string s] 35))
  have k0 : (w.alloc (.cells #[.int .i64 3, .int .i64 i, .string s] 35)).cell? ⟨w.heap.size, 0, none⟩ = some (.int .i64 3) := by simp [go_sem]
  have k1 : (w.alloc (.cells #[.int .i64 3, .int .i64 i, .string s] 35)).cell? ⟨w.heap.size, 1, none⟩ = some (.int .i64 i) := by simp [go_sem]
  have k2 : (w.alloc (.cells #[.int .i64 3, .int .i64 i, .string s] 35)).cell? ⟨w.heap.size, 2, none⟩ = some (.string s) := by simp [go_sem]
  generalize w.alloc (.cells #[.int .i64 3, .int .i64 i, .string s] 35) = W at *
  replace k0 := cell_regrown k0
  replace k1 := cell_regrown k1
  replace k2 := cell_regrown k2
  refine wp_region_quiet_below (by kernel_rfl) (by kernel_rfl) ?_
  repeat (go_big_quiet_step (first | exact Calls.regrown_of (value_checks.tab _) | exact Calls.regrown_of (HF.out _)))
  refine wpQuiet_nil ?_
  intro _ hw'
  obtain ⟨⟨dq, osq⟩, hw''⟩ := hw'
  subst hw''
  go_wp2
  go_ret
  exact ⟨rfl, below_then hb.out hb.out.size (below_regrown W dq osq)⟩
set_option maxRecDepth 100000 in
set_option maxHeartbeats 1000000 in
theorem value_check.out (n i : Int) (s : ByteArray) (most : Int) (w : World) (hn : n < 0 ∨ 4 ≤ n) :
    Calls Tryz.prog 104 #[.agg #[.int .i64 n, .int .i64 i, .string s], .int .i64 most] w fun e w' => e = .returned (.bool false) ∧ Below w.heap.size w w' := by
  have hu35 := Tryz.underlying35
  go_enter Tryz.func104, Tryz.ntmps104
  go_wp2
  have hb := Lib.hid ((Below.refl _ w).alloc (Nat.le_refl _) (.cells #[.int .i64 n, .int .i64 i, .string s] 35))
  have k0 : (w.alloc (.cells #[.int .i64 n, .int .i64 i, .string s] 35)).cell? ⟨w.heap.size, 0, none⟩ = some (.int .i64 n) := by simp [go_sem]
  generalize w.alloc (.cells #[.int .i64 n, .int .i64 i, .string s] 35) = W at *
  replace k0 := cell_regrown k0
  by_cases h0 : n < 0
  · have d0 : decide (0 ≤ n) = false := decide_eq_false (by omega)
    refine wp_region_quiet_below (by kernel_rfl) (by kernel_rfl) ?_
    repeat (go_big_quiet_step (first | exact Calls.regrown_of (value_checks.tab _)))
    refine wpQuiet_nil ?_
    intro _ hw'
    obtain ⟨⟨dq, osq⟩, hw''⟩ := hw'
    subst hw''
    go_wp2
    go_ret
    exact ⟨rfl, below_then hb.out hb.out.size (below_regrown W dq osq)⟩
  · have d0 : decide (0 ≤ n) = true := decide_eq_true (by omega)
    have d1 : decide (n < 4) = false := decide_eq_false (by omega)
    clear hn h0
    refine wp_region_quiet_below (by kernel_rfl) (by kernel_rfl) ?_
    repeat (go_big_quiet_step (first | exact Calls.regrown_of (value_checks.tab _)))
    refine wpQuiet_nil ?_
    intro _ hw'
    obtain ⟨⟨dq, osq⟩, hw''⟩ := hw'
    subst hw''
    go_wp2
    go_ret
    exact ⟨rfl, below_then hb.out hb.out.size (below_regrown W dq osq)⟩
theorem value_check.calls (k : Nat) (a0_0 : Int) (a0_1 : Int) (a0_2 : ByteArray) (a1 : Int) (r : Bool) (w : World) (h : value_check.f k a0_0 a0_1 a0_2 a1 = some r) :
    Calls Tryz.prog 104 #[.agg #[.int .i64 a0_0, .int .i64 a0_1, .string a0_2], .int .i64 a1] w fun e w' => e = .returned (.bool r) ∧ Below w.heap.size w w' := by
  unfold value_check.f at h
  by_cases h0 : a0_0 = 0
  · subst h0
    rw [if_pos rfl] at h
    exact value_check.case0 _ _ _ _ _ (fun w => value_checks_1.calls _ _ _ _ _ w h)
  rw [if_neg h0] at h
  by_cases h1 : a0_0 = 1
  · subst h1
    rw [if_pos rfl] at h
    exact value_check.case1 _ _ _ _ _ (fun w => value_checks_2.calls _ _ _ _ _ w h)
  rw [if_neg h1] at h
  by_cases h2 : a0_0 = 2
  · subst h2
    rw [if_pos rfl] at h
    exact value_check.case2 _ _ _ _ _ (fun w => value_checks_3.calls _ _ _ _ _ w h)
  rw [if_neg h2] at h
  by_cases h3 : a0_0 = 3
  · subst h3
    rw [if_pos rfl] at h
    exact value_check.case3 _ _ _ _ _ (fun w => value_checks_4.calls _ _ _ _ _ _ w h)
  rw [if_neg h3] at h
  obtain rfl := Option.some.inj h
  exact value_check.out _ _ _ _ _ (by omega)
end Go.Proofs.YteflfnjljjianaaGreatDoor.Qx
namespace Go.Proofs.YteflfnjljjianaaGreatDoor.Qx
open Go.RowKit Go.Proofs.YteflfnjljjianaaGreatDoorW.PrintWords Go.Proofs.YteflfnjljjianaaGreatDoorW.PrintLast Go.Proofs.YteflfnjljjianaaGreatDoorW.PrintMore
attribute [local go_sem] max2_int min2_int max_two min_two
set_option linter.unusedVariables false
set_option linter.unusedSimpArgs false
def value_Wide.f (k : Nat) (a0_0 : Int) (a0_1 : Int) (a0_2 : ByteArray) : Option (Bool) := (value_check.f k a0_0 a0_1 a0_2 4000000000000000000).bind fun t102 => (some t102)
set_option maxHeartbeats 8000000 in
set_option maxRecDepth 100000 in
theorem value_Wide.calls (k : Nat) (a0_0 : Int) (a0_1 : Int) (a0_2 : ByteArray) (r : Bool) (w : World) (h : value_Wide.f k a0_0 a0_1 a0_2 = some r) :
    Calls Tryz.prog 69 #[.agg #[.int .i64 a0_0, .int .i64 a0_1, .string a0_2]] w fun e w' => e = .returned (.bool r) ∧ Below w.heap.size w w' := by
  have hu35 := Tryz.underlying35
  have HB := Aside0.mk (Below.refl w.heap.size w)
  have H : ((value_check.f k a0_0 a0_1 a0_2 4000000000000000000).bind fun t102 => (some t102)) = some r := h
  clear h
  replace H := Option.bind_eq_some_iff.mp H
  obtain ⟨t102, A20, H⟩ := H
  replace H : (some t102) = some r := H
  have A2 := Aside0.mk A20
  clear A20
  obtain rfl := Option.some.inj H
  go_enter Tryz.func69, Tryz.ntmps69
  go_wp2_with (first | ((with_reducible refine gate_dst (N := 1) rfl ?_); refine box_event ?hg (N := 1) ?hd (cs := #[.int .i64 a0_0, .int .i64 a0_1, .string a0_2]) (t := 35) ?hr ?_; (case hd => rfl); (case hg => rfl); (case hr => first | (go_simp; done) | (go_simp; rfl)); intro gb101 hg w3 hbox hb; have n0_ := Aside0.mk (below_step (by repeat (first | (with_reducible first | exact HB.out | apply below_alloc | apply pw_below_drewN | apply below_drew1) | exact HB.out)) hb); have n1_ := Aside0.mk (hbox); have n2_ := Aside0.mk ((by rw [hg]; exact (below_size (by repeat (first | (with_reducible first | exact HB.out | apply below_alloc | apply pw_below_drewN | apply below_drew1) | exact HB.out))) : w.heap.size ≤ gb101)); have n3_ := Aside0.mk ((by rw [hg]; exact (below_size (by repeat (first | (with_reducible first | exact HB.out | apply below_alloc | apply pw_below_drewN | apply below_drew1) | exact HB.out))) : w.heap.size ≤ gb101)); clear HB; have HB := n0_; have BK101 := n1_; have GW101 := n2_; have GE101 := n3_; clear n0_ n1_ n2_ n3_; clear hb hbox hg; have hcz4_0 : w3.cell? ⟨gb101, 0, none⟩ = some (.int .i64 a0_0) := (blk_cell BK101.out 0).trans rfl; have hcz4_1 : w3.cell? ⟨gb101, 1, none⟩ = some (.int .i64 a0_1) := (blk_cell BK101.out 1).trans rfl; have hcz4_2 : w3.cell? ⟨gb101, 2, none⟩ = some (.string a0_2) := (blk_cell BK101.out 2).trans rfl; have hfz4_0 := blk_frozen BK101.out 0; have hfz4_1 := blk_frozen BK101.out 1; have hfz4_2 := blk_frozen BK101.out 2) | ((with_reducible refine gate_callee (f := 104) rfl ?_); refine goesL_ (some 4) rfl rfl Tryz.func104 (by kernel_rfl) rfl #[.agg #[.int .i64 a0_0, .int .i64 a0_1, .string a0_2], .int .i64 4000000000000000000] rfl (by (try simp only [List.map_toArray, List.map_cons, List.map_nil]); first | done | rfl | (simp only [List.length_drop, List.length_take]; rfl)) ?_; (with_reducible refine (value_check.calls k a0_0 a0_1 a0_2 4000000000000000000 t102 _ A2.out).mono ?_); rintro e w5 ⟨rfl, hb⟩; refine ⟨_, rfl, ?_⟩; have n0_ := Aside0.mk (blk_below (g := gb101) (o := .cells #[.int .i64 a0_0, .int .i64 a0_1, .string a0_2] 35 (0, 0)) (by (with_reducible repeat (first | refine blk_drewN ?_ _ | refine blk_drew ?_ | refine blk_alloc ?_ _)); exact BK101.out) hb); have n1_ := Aside0.mk (below_step (by repeat (first | (with_reducible first | exact HB.out | apply below_alloc | apply pw_below_drewN | apply below_drew1 | refine below_set ?_ GE101.out) | exact HB.out)) hb); clear BK101; clear HB; have BK101 := n0_; have HB := n1_; clear n0_ n1_; (try clear hb); (try clear hb2); (try clear hk); (try clear hi)))
  go_ret
  exact ⟨by first | rfl | (simp [errW_none, errW_some] <;> rfl) | (simp [*, errW_none, errW_some] <;> rfl), by repeat (first | (with_reducible first | exact HB.out | apply below_alloc | apply pw_below_drewN | apply below_drew1 | refine below_set ?_ GE101.out) | exact HB.out)⟩
end Go.Proofs.YteflfnjljjianaaGreatDoor.Qx
namespace Go.Proofs.YteflfnjljjianaaGreatDoor.Qx
open Go.RowKit Go.Proofs.YteflfnjljjianaaGreatDoorW.PrintWords Go.Proofs.YteflfnjljjianaaGreatDoorW.PrintLast Go.Proofs.YteflfnjljjianaaGreatDoorW.PrintMore
attribute [local go_sem] max2_int min2_int max_two min_two
set_option linter.unusedVariables false
set_option linter.unusedSimpArgs false
def value_Valid.f (k : Nat) (a0_0 : Int) (a0_1 : Int) (a0_2 : ByteArray) : Option (Bool) := (value_check.f k a0_0 a0_1 a0_2 1000000000000000).bind fun t102 => (some t102)
set_option maxHeartbeats 8000000 in
set_option maxRecDepth 100000 in
theorem value_Valid.calls (k : Nat) (a0_0 : Int) (a0_1 : Int) (a0_2 : ByteArray) (r : Bool) (w : World) (h : value_Valid.f k a0_0 a0_1 a0_2 = some r) :
    Calls Tryz.prog 139 #[.agg #[.int .i64 a0_0, .int .i64 a0_1, .string a0_2]] w fun e w' => e = .returned (.bool r) ∧ Below w.heap.size w w' := by
  have hu35 := Tryz.underlying35
  have HB := Aside0.mk (Below.refl w.heap.size w)
  have H : ((value_check.f k a0_0 a0_1 a0_2 1000000000000000).bind fun t102 => (some t102)) = some r := h
  clear h
  replace H := Option.bind_eq_some_iff.mp H
  obtain ⟨t102, A20, H⟩ := H
  replace H : (some t102) = some r := H
  have A2 := Aside0.mk A20
  clear A20
  obtain rfl := Option.some.inj H
  go_enter Tryz.func139, Tryz.ntmps139
  go_wp2_with (first | ((with_reducible refine gate_dst (N := 1) rfl ?_); refine box_event ?hg (N := 1) ?hd (cs := #[.int .i64 a0_0, .int .i64 a0_1, .string a0_2]) (t := 35) ?hr ?_; (case hd => rfl); (case hg => rfl); (case hr => first | (go_simp; done) | (go_simp; rfl)); intro gb101 hg w3 hbox hb; have n0_ := Aside0.mk (below_step (by repeat (first | (with_reducible first | exact HB.out | apply below_alloc | apply pw_below_drewN | apply below_drew1) | exact HB.out)) hb); have n1_ := Aside0.mk (hbox); have n2_ := Aside0.mk ((by rw [hg]; exact (below_size (by repeat (first | (with_reducible first | exact HB.out | apply below_alloc | apply pw_below_drewN | apply below_drew1) | exact HB.out))) : w.heap.size ≤ gb101)); have n3_ := Aside0.mk ((by rw [hg]; exact (below_size (by repeat (first | (with_reducible first | exact HB.out | apply below_alloc | apply pw_below_drewN | apply below_drew1) | exact HB.out))) : w.heap.size ≤ gb101)); clear HB; have HB := n0_; have BK101 := n1_; have GW101 := n2_; have GE101 := n3_; clear n0_ n1_ n2_ n3_; clear hb hbox hg; have hcz4_0 : w3.cell? ⟨gb101, 0, none⟩ = some (.int .i64 a0_0) := (blk_cell BK101.out 0).trans rfl; have hcz4_1 : w3.cell? ⟨gb101, 1, none⟩ = some (.int .i64 a0_1) := (blk_cell BK101.out 1).trans rfl; have hcz4_2 : w3.cell? ⟨gb101, 2, none⟩ = some (.string a0_2) := (blk_cell BK101.out 2).trans rfl; have hfz4_0 := blk_frozen BK101.out 0; have hfz4_1 := blk_frozen BK101.out 1; have hfz4_2 := blk_frozen BK101.out 2) | ((with_reducible refine gate_callee (f := 104) rfl ?_); refine goesL_ (some 4) rfl rfl Tryz.func104 (by kernel_rfl) rfl #[.agg #[.int .i64 a0_0, .int .i64 a0_1, .string a0_2], .int .i64 1000000000000000] rfl (by (try simp only [List.map_toArray, List.map_cons, List.map_nil]); first | done | rfl | (simp only [List.length_drop, List.length_take]; rfl)) ?_; (with_reducible refine (value_check.calls k a0_0 a0_1 a0_2 1000000000000000 t102 _ A2.out).mono ?_); rintro e w5 ⟨rfl, hb⟩; refine ⟨_, rfl, ?_⟩; have n0_ := Aside0.mk (blk_below (g := gb101) (o := .cells #[.int .i64 a0_0, .int .i64 a0_1, .string a0_2] 35 (0, 0)) (by (with_reducible repeat (first | refine blk_drewN ?_ _ | refine blk_drew ?_ | refine blk_alloc ?_ _)); exact BK101.out) hb); have n1_ := Aside0.mk (below_step (by repeat (first | (with_reducible first | exact HB.out | apply below_alloc | apply pw_below_drewN | apply below_drew1 | refine below_set ?_ GE101.out) | exact HB.out)) hb); clear BK101; clear HB; have BK101 := n0_; have HB := n1_; clear n0_ n1_; (try clear hb); (try clear hb2); (try clear hk); (try clear hi)))
  go_ret
  exact ⟨by first | rfl | (simp [errW_none, errW_some] <;> rfl) | (simp [*, errW_none, errW_some] <;> rfl), by repeat (first | (with_reducible first | exact HB.out | apply below_alloc | apply pw_below_drewN | apply below_drew1 | refine below_set ?_ GE101.out) | exact HB.out)⟩
end Go.Proofs.YteflfnjljjianaaGreatDoor.Qx
