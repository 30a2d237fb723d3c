/- Part of a proof of PartitionGroupsCardSaid: functions of the given program and what they compute, each checked by the kernel. -/
import Derived.Test.YteflfnjljjianaaGreatDoorPG02
import Derived.Test.YteflfnjljjianaaGreatDoorPG06
import Derived.Test.YteflfnjljjianaaGreatDoorPG10
import Derived.Deep.RegionHeld3
import Derived.Deep.AppendLies
namespace Go.Proofs.YteflfnjljjianaaGreatDoor.Qx
open Go.RowKit Go.Proofs.YteflfnjljjianaaGreatDoorW.PrintWords Go.Proofs.YteflfnjljjianaaGreatDoorW.PrintLast Go.Proofs.YteflfnjljjianaaGreatDoorW.PrintMore
attribute [local go_sem] max2_int min2_int max_two min_two
set_option linter.unusedVariables false
set_option linter.unusedSimpArgs false
def chapmanref06_Bool.f (a0 : Bool) : Option (Int × Int × ByteArray) := if a0 = true then (some (1, 1, (⟨#[]⟩ : ByteArray))) else (some (1, 0, (⟨#[]⟩ : ByteArray)))
set_option maxHeartbeats 8000000 in
set_option maxRecDepth 100000 in
theorem chapmanref06_Bool.calls (a0 : Bool) (r1 : Int) (r2 : Int) (r3 : ByteArray) (w : World) (h : chapmanref06_Bool.f a0 = some (r1, r2, r3)) :
    Calls Tryz.prog 61 #[.bool a0] w fun e w' => e = .returned (.agg #[.int .i64 r1, .int .i64 r2, .string r3]) ∧ Below w.heap.size w w' := by
  have hu35 := Tryz.underlying35
  have HB := Aside0.mk (Below.refl w.heap.size w)
  have H : (if a0 = true then (some (1, 1, (⟨#[]⟩ : ByteArray))) else (some (1, 0, (⟨#[]⟩ : ByteArray)))) = some (r1, r2, r3) := h
  clear h
  by_cases c2 : a0 = true
  · subst c2
    have H1 : (some (1, 1, (⟨#[]⟩ : ByteArray))) = some (r1, r2, r3) := by rw [if_pos rfl] at H; exact H
    clear H
    have H := H1
    clear H1
    simp only [Option.some.injEq, Prod.mk.injEq] at H
    obtain ⟨rfl, rfl, rfl⟩ := H
    go_enter Tryz.func61, Tryz.ntmps61
    go_wp2_with (first | ((with_reducible refine gate_dst (N := 2) rfl ?_); refine box_event ?hg (N := 2) ?hd (cs := #[.int .i64 0, .int .i64 0, .string (⟨#[]⟩ : ByteArray)]) (t := 35) ?hr ?_; (case hd => rfl); (case hg => rfl); (case hr => first | (go_simp; done) | (go_simp; rfl)); intro gb101 hg w3 hbox hb; have n0_ := Aside0.mk (below_step (by repeat (first | (with_reducible first | exact HB.out | apply below_alloc | apply pw_below_drewN | apply below_drew1) | exact HB.out)) hb); have n1_ := Aside0.mk (hbox); have n2_ := Aside0.mk ((by rw [hg]; exact (below_size (by repeat (first | (with_reducible first | exact HB.out | apply below_alloc | apply pw_below_drewN | apply below_drew1) | exact HB.out))) : w.heap.size ≤ gb101)); have n3_ := Aside0.mk ((by rw [hg]; exact (below_size (by repeat (first | (with_reducible first | exact HB.out | apply below_alloc | apply pw_below_drewN | apply below_drew1) | exact HB.out))) : w.heap.size ≤ gb101)); clear HB; have HB := n0_; have BK101 := n1_; have GW101 := n2_; have GE101 := n3_; clear n0_ n1_ n2_ n3_; clear hb hbox hg; have hcz4_0 : w3.cell? ⟨gb101, 0, none⟩ = some (.int .i64 0) := (blk_cell BK101.out 0).trans rfl; have hcz4_1 : w3.cell? ⟨gb101, 1, none⟩ = some (.int .i64 0) := (blk_cell BK101.out 1).trans rfl; have hcz4_2 : w3.cell? ⟨gb101, 2, none⟩ = some (.string (⟨#[]⟩ : ByteArray)) := (blk_cell BK101.out 2).trans rfl; have hfz4_0 := blk_frozen BK101.out 0; have hfz4_1 := blk_frozen BK101.out 1; have hfz4_2 := blk_frozen BK101.out 2))
    refine bodyPost_ret (results_cell_row rfl _ _ gb101 35 #[.int .i64 1, .int .i64 1, .string (⟨#[]⟩ : ByteArray)] (0, 0) _ rfl (by (with_reducible repeat (first | refine blk_drewN ?_ _ | refine blk_drew ?_ | refine blk_alloc ?_ _)); refine blk_put (cs := #[.int .i64 1, .int .i64 1, .string (⟨#[]⟩ : ByteArray)]) ?_ 2 _ rfl; (with_reducible repeat (first | refine blk_drewN ?_ _ | refine blk_drew ?_ | refine blk_alloc ?_ _)); refine blk_put (cs := #[.int .i64 1, .int .i64 0, .string (⟨#[]⟩ : ByteArray)]) ?_ 1 _ rfl; (with_reducible repeat (first | refine blk_drewN ?_ _ | refine blk_drew ?_ | refine blk_alloc ?_ _)); refine blk_put (cs := #[.int .i64 0, .int .i64 0, .string (⟨#[]⟩ : ByteArray)]) ?_ 0 _ rfl; (with_reducible repeat (first | refine blk_drewN ?_ _ | refine blk_drew ?_ | refine blk_alloc ?_ _)); exact BK101.out) Tryz.underlying35 rfl (by kernel_rfl)) rfl ?_
    exact ⟨by first | rfl | (simp [errW_none, errW_some] <;> rfl) | (simp [*, errW_none, errW_some] <;> rfl), by repeat (first | (with_reducible first | exact HB.out | apply below_alloc | apply pw_below_drewN | apply below_drew1 | refine below_set ?_ GE101.out) | exact HB.out)⟩
  · replace c2 := Bool.eq_false_iff.mpr c2
    subst c2
    have H1 : (some (1, 0, (⟨#[]⟩ : ByteArray))) = some (r1, r2, r3) := by rw [if_neg (show ¬ (false = true) by decide)] at H; exact H
    clear H
    have H := H1
    clear H1
    simp only [Option.some.injEq, Prod.mk.injEq] at H
    obtain ⟨rfl, rfl, rfl⟩ := H
    go_enter Tryz.func61, Tryz.ntmps61
    go_wp2_with (first | ((with_reducible refine gate_dst (N := 2) rfl ?_); refine box_event ?hg (N := 2) ?hd (cs := #[.int .i64 0, .int .i64 0, .string (⟨#[]⟩ : ByteArray)]) (t := 35) ?hr ?_; (case hd => rfl); (case hg => rfl); (case hr => first | (go_simp; done) | (go_simp; rfl)); intro gb101 hg w5 hbox hb; have n0_ := Aside0.mk (below_step (by repeat (first | (with_reducible first | exact HB.out | apply below_alloc | apply pw_below_drewN | apply below_drew1) | exact HB.out)) hb); have n1_ := Aside0.mk (hbox); have n2_ := Aside0.mk ((by rw [hg]; exact (below_size (by repeat (first | (with_reducible first | exact HB.out | apply below_alloc | apply pw_below_drewN | apply below_drew1) | exact HB.out))) : w.heap.size ≤ gb101)); have n3_ := Aside0.mk ((by rw [hg]; exact (below_size (by repeat (first | (with_reducible first | exact HB.out | apply below_alloc | apply pw_below_drewN | apply below_drew1) | exact HB.out))) : w.heap.size ≤ gb101)); clear HB; have HB := n0_; have BK101 := n1_; have GW101 := n2_; have GE101 := n3_; clear n0_ n1_ n2_ n3_; clear hb hbox hg; have hcz6_0 : w5.cell? ⟨gb101, 0, none⟩ = some (.int .i64 0) := (blk_cell BK101.out 0).trans rfl; have hcz6_1 : w5.cell? ⟨gb101, 1, none⟩ = some (.int .i64 0) := (blk_cell BK101.out 1).trans rfl; have hcz6_2 : w5.cell? ⟨gb101, 2, none⟩ = some (.string (⟨#[]⟩ : ByteArray)) := (blk_cell BK101.out 2).trans rfl; have hfz6_0 := blk_frozen BK101.out 0; have hfz6_1 := blk_frozen BK101.out 1; have hfz6_2 := blk_frozen BK101.out 2))
    refine bodyPost_ret (results_cell_row rfl _ _ gb101 35 #[.int .i64 1, .int .i64 0, .string (⟨#[]⟩ : ByteArray)] (0, 0) _ rfl (by (with_reducible repeat (first | refine blk_drewN ?_ _ | refine blk_drew ?_ | refine blk_alloc ?_ _)); refine blk_put (cs := #[.int .i64 1, .int .i64 0, .string (⟨#[]⟩ : ByteArray)]) ?_ 2 _ rfl; (with_reducible repeat (first | refine blk_drewN ?_ _ | refine blk_drew ?_ | refine blk_alloc ?_ _)); refine blk_put (cs := #[.int .i64 1, .int .i64 0, .string (⟨#[]⟩ : ByteArray)]) ?_ 1 _ rfl; (with_reducible repeat (first | refine blk_drewN ?_ _ | refine blk_drew ?_ | refine blk_alloc ?_ _)); refine blk_put (cs := #[.int .i64 0, .int .i64 0, .string (⟨#[]⟩ : ByteArray)]) ?_ 0 _ rfl; (with_reducible repeat (first | refine blk_drewN ?_ _ | refine blk_drew ?_ | refine blk_alloc ?_ _)); exact BK101.out) Tryz.underlying35 rfl (by kernel_rfl)) rfl ?_
    exact ⟨by first | rfl | (simp [errW_none, errW_some] <;> rfl) | (simp [*, errW_none, errW_some] <;> rfl), by repeat (first | (with_reducible first | exact HB.out | apply below_alloc | apply pw_below_drewN | apply below_drew1 | refine below_set ?_ GE101.out) | exact HB.out)⟩
end Go.Proofs.YteflfnjljjianaaGreatDoor.Qx
namespace Go.Proofs.YteflfnjljjianaaGreatDoor.Qx
open Go.RowKit Go.Proofs.YteflfnjljjianaaGreatDoorW.PrintWords Go.Proofs.YteflfnjljjianaaGreatDoorW.PrintLast Go.Proofs.YteflfnjljjianaaGreatDoorW.PrintMore
attribute [local go_sem] max2_int min2_int max_two min_two
set_option linter.unusedVariables false
set_option linter.unusedSimpArgs false
def chapmanref06_Step.l0 : Nat → Int → Int → Int → Option (Int)
  | 0, _, _, _ => none
  | k + 1, x0, x3, x4 => if x4 < x0 then (chapmanref06_Step.l0 k x0 (wrap64 (Int.tdiv x3 10)) (wrap64 (x4 + 1))) else (some x3)
def chapmanref06_Step.f (k : Nat) (a0 : Int) : Option (Int) := chapmanref06_Step.l0 k a0 1000000 0
set_option maxHeartbeats 8000000 in
set_option maxRecDepth 100000 in
theorem chapmanref06_Step.calls (k : Nat) (a0 : Int) (r : Int) (w : World) (h : chapmanref06_Step.f k a0 = some r) :
    Calls Tryz.prog 62 #[.int .i64 a0] w fun e w' => e = .returned (.int .i64 r) ∧ Drawn0 w w' := by
  have H : (chapmanref06_Step.l0 k a0 1000000 0) = some r := h
  clear h
  have H' := Aside0.mk H
  clear H
  go_enter Tryz.func62, Tryz.ntmps62
  go_wp2
  go_loopg [3, 4] k (fun kq v3 v4 w' => ∃ (x3_1 : Int) (x4_1 : Int), v3 = .int .i64 x3_1 ∧ v4 = .int .i64 x4_1 ∧ Aside0 (chapmanref06_Step.l0 kq a0 x3_1 x4_1 = some r) ∧ Aside0 (kq ≤ k) ∧ Drawn0 w w')
  case atStart => exact ⟨(1000000), (0), (by first | rfl | (simp; done) | (simp [*]; done)), (by first | rfl | (simp; done) | (simp [*]; done)), H', ⟨Nat.le_refl _⟩, by repeat (first | exact Drawn0.refl _ | apply Drawn0.step)⟩
  case round =>
    clear H'
    obtain ⟨x3_1, x4_1, rfl, rfl, HA, HK1, ⟨m1, rfl⟩⟩ := hrel
    cases gk with
    | zero => exact absurd HA.out (by simp [chapmanref06_Step.l0])
    | succ k1 =>
      have H := HA.out
      clear HA
      simp only [chapmanref06_Step.l0] at H
      by_cases c2 : x4_1 < a0
      · rw [if_pos c2] at H
        have c2b0 : decide (x4_1 < a0) = true := decide_eq_true c2
        clear c2
        have H' := Aside0.mk H
        clear H
        go_wp2
        go_roundg k1
        case measure => have := HK1.out; omega
        case rel => exact ⟨(wrap64 (Int.tdiv x3_1 10)), (wrap64 (x4_1 + 1)), (by first | rfl | (simp; done) | (simp [*]; done)), (by first | rfl | (simp; done) | (simp [*]; done)), H', ⟨by have := HK1.out; omega⟩, by repeat (first | exact Drawn0.refl _ | apply Drawn0.step)⟩
      · rw [if_neg c2] at H
        have c2b0 : decide (x4_1 < a0) = false := decide_eq_false c2
        clear c2
        obtain rfl := Option.some.inj H
        go_wp2
        go_ret
        exact ⟨by first | rfl | (simp; done) | (simp [*]; done), by repeat (first | exact Drawn0.refl _ | apply Drawn0.step)⟩
end Go.Proofs.YteflfnjljjianaaGreatDoor.Qx
namespace Go.Proofs.YteflfnjljjianaaGreatDoor.Qx
open Go.RowKit Go.Proofs.YteflfnjljjianaaGreatDoorW.PrintWords Go.Proofs.YteflfnjljjianaaGreatDoorW.PrintLast Go.Proofs.YteflfnjljjianaaGreatDoorW.PrintMore
attribute [local go_sem] max2_int min2_int max_two min_two
set_option linter.unusedVariables false
set_option linter.unusedSimpArgs false
def chapmanref06_words.f (a0 : Int) : Option (ByteArray) := (some (([(⟨#[]⟩ : ByteArray), (⟨#[97]⟩ : ByteArray), (⟨#[98]⟩ : ByteArray), (⟨#[97, 98]⟩ : ByteArray), (⟨#[97, 32, 98]⟩ : ByteArray), (⟨#[98, 32, 97, 32, 99]⟩ : ByteArray), (⟨#[120, 45, 121]⟩ : ByteArray), (⟨#[45]⟩ : ByteArray), (⟨#[49, 50]⟩ : ByteArray), (⟨#[45, 48, 46, 53]⟩ : ByteArray), (⟨#[97, 34, 98]⟩ : ByteArray), (⟨#[92]⟩ : ByteArray), (⟨#[48]⟩ : ByteArray), (⟨#[55, 46, 50, 53]⟩ : ByteArray), (⟨#[97, 98, 99, 100, 101, 102, 103, 104, 105, 106, 107, 108, 109, 110, 111, 112, 113, 114, 115, 116, 117, 118, 119, 120, 121, 122, 97, 98, 99, 100, 101, 102, 103, 104, 105, 106, 107, 108, 109, 110]⟩ : ByteArray)] : List ByteArray) : List ByteArray)).bind fun y101 => (if 0 ≤ (Int.tmod a0 15) then (if (Int.tmod a0 15) < (y101.length : Int) then (some (rdOf ByteArray.empty y101 (Int.tmod a0 15))) else (none)) else (none))
set_option maxHeartbeats 8000000 in
set_option maxRecDepth 100000 in
theorem chapmanref06_words.calls (a0 : Int) (r : ByteArray) (w : World) (h : chapmanref06_words.f a0 = some r) :
    Calls Tryz.prog 63 #[.int .i64 a0] w fun e w' => e = .returned (.string r) ∧ Below w.heap.size w w' := by
  have HB := Aside0.mk (Below.refl w.heap.size w)
  have H : ((some (([(⟨#[]⟩ : ByteArray), (⟨#[97]⟩ : ByteArray), (⟨#[98]⟩ : ByteArray), (⟨#[97, 98]⟩ : ByteArray), (⟨#[97, 32, 98]⟩ : ByteArray), (⟨#[98, 32, 97, 32, 99]⟩ : ByteArray), (⟨#[120, 45, 121]⟩ : ByteArray), (⟨#[45]⟩ : ByteArray), (⟨#[49, 50]⟩ : ByteArray), (⟨#[45, 48, 46, 53]⟩ : ByteArray), (⟨#[97, 34, 98]⟩ : ByteArray), (⟨#[92]⟩ : ByteArray), (⟨#[48]⟩ : ByteArray), (⟨#[55, 46, 50, 53]⟩ : ByteArray), (⟨#[97, 98, 99, 100, 101, 102, 103, 104, 105, 106, 107, 108, 109, 110, 111, 112, 113, 114, 115, 116, 117, 118, 119, 120, 121, 122, 97, 98, 99, 100, 101, 102, 103, 104, 105, 106, 107, 108, 109, 110]⟩ : ByteArray)] : List ByteArray) : List ByteArray)).bind fun y101 => (if 0 ≤ (Int.tmod a0 15) then (if (Int.tmod a0 15) < (y101.length : Int) then (some (rdOf ByteArray.empty y101 (Int.tmod a0 15))) else (none)) else (none))) = some r := h
  clear h
  obtain ⟨y101, hy101⟩ : ∃ y_ : List ByteArray, y_ = (([(⟨#[]⟩ : ByteArray), (⟨#[97]⟩ : ByteArray), (⟨#[98]⟩ : ByteArray), (⟨#[97, 98]⟩ : ByteArray), (⟨#[97, 32, 98]⟩ : ByteArray), (⟨#[98, 32, 97, 32, 99]⟩ : ByteArray), (⟨#[120, 45, 121]⟩ : ByteArray), (⟨#[45]⟩ : ByteArray), (⟨#[49, 50]⟩ : ByteArray), (⟨#[45, 48, 46, 53]⟩ : ByteArray), (⟨#[97, 34, 98]⟩ : ByteArray), (⟨#[92]⟩ : ByteArray), (⟨#[48]⟩ : ByteArray), (⟨#[55, 46, 50, 53]⟩ : ByteArray), (⟨#[97, 98, 99, 100, 101, 102, 103, 104, 105, 106, 107, 108, 109, 110, 111, 112, 113, 114, 115, 116, 117, 118, 119, 120, 121, 122, 97, 98, 99, 100, 101, 102, 103, 104, 105, 106, 107, 108, 109, 110]⟩ : ByteArray)] : List ByteArray)) := ⟨_, rfl⟩
  replace H : (if 0 ≤ (Int.tmod a0 15) then (if (Int.tmod a0 15) < (y101.length : Int) then (some (rdOf ByteArray.empty y101 (Int.tmod a0 15))) else (none)) else (none)) = some r := by first | (rw [hy101]; with_reducible exact H) | (have H2_ := (Option.bind_some _ _).symm.trans H; rw [hy101]; with_reducible exact H2_) | (have H2_ := (Option.bind_some _ _).symm.trans H; with_reducible exact H2_) | with_reducible exact H | (rw [hy101]; exact H) | exact H
  have Ny101 := Aside0.mk hy101
  clear hy101
  obtain ⟨ji2, hji2⟩ : ∃ j_ : Int, (Int.tmod a0 15) = j_ := ⟨_, rfl⟩
  replace H : (if 0 ≤ (ji2) then (if (ji2) < (y101.length : Int) then (some (rdOf ByteArray.empty y101 (ji2))) else (none)) else (none)) = some r := by first | (rw [hji2] at H; exact H) | (simp only [hji2] at H ⊢; exact H)
  by_cases c3 : 0 ≤ (ji2)
  · rw [if_pos c3] at H
    have c3b0 : decide (0 ≤ (ji2)) = true := decide_eq_true c3
    clear c3
    by_cases c4 : (ji2) < (y101.length : Int)
    · rw [if_pos c4] at H
      have c4b0 : decide ((ji2) < (y101.length : Int)) = true := decide_eq_true c4
      clear c4
      obtain rfl := Option.some.inj H
      go_enter Tryz.func63, Tryz.ntmps63
      go_wp2_with (first | ((with_reducible refine gate_dst (N := 3) rfl ?_); refine Kd.R_lit Kd.string _ 9 ?hg (N := 3) ?hd (xs := ([(⟨#[]⟩ : ByteArray), (⟨#[97]⟩ : ByteArray), (⟨#[98]⟩ : ByteArray), (⟨#[97, 98]⟩ : ByteArray), (⟨#[97, 32, 98]⟩ : ByteArray), (⟨#[98, 32, 97, 32, 99]⟩ : ByteArray), (⟨#[120, 45, 121]⟩ : ByteArray), (⟨#[45]⟩ : ByteArray), (⟨#[49, 50]⟩ : ByteArray), (⟨#[45, 48, 46, 53]⟩ : ByteArray), (⟨#[97, 34, 98]⟩ : ByteArray), (⟨#[92]⟩ : ByteArray), (⟨#[48]⟩ : ByteArray), (⟨#[55, 46, 50, 53]⟩ : ByteArray), (⟨#[97, 98, 99, 100, 101, 102, 103, 104, 105, 106, 107, 108, 109, 110, 111, 112, 113, 114, 115, 116, 117, 118, 119, 120, 121, 122, 97, 98, 99, 100, 101, 102, 103, 104, 105, 106, 107, 108, 109, 110]⟩ : ByteArray)] : List ByteArray)) (inner := [.string (⟨#[]⟩ : ByteArray), .string (⟨#[97]⟩ : ByteArray), .string (⟨#[98]⟩ : ByteArray), .string (⟨#[97, 98]⟩ : ByteArray), .string (⟨#[97, 32, 98]⟩ : ByteArray), .string (⟨#[98, 32, 97, 32, 99]⟩ : ByteArray), .string (⟨#[120, 45, 121]⟩ : ByteArray), .string (⟨#[45]⟩ : ByteArray), .string (⟨#[49, 50]⟩ : ByteArray), .string (⟨#[45, 48, 46, 53]⟩ : ByteArray), .string (⟨#[97, 34, 98]⟩ : ByteArray), .string (⟨#[92]⟩ : ByteArray), .string (⟨#[48]⟩ : ByteArray), .string (⟨#[55, 46, 50, 53]⟩ : ByteArray), .string (⟨#[97, 98, 99, 100, 101, 102, 103, 104, 105, 106, 107, 108, 109, 110, 111, 112, 113, 114, 115, 116, 117, 118, 119, 120, 121, 122, 97, 98, 99, 100, 101, 102, 103, 104, 105, 106, 107, 108, 109, 110]⟩ : ByteArray)]) (ok := fun _ => True) (okp := fun _ => True) ?hr ?hp (fun _ hk => hk) trivial (Below.refl _ _) (Nat.le_refl _) (by simp) ?_; (case hd => rfl); (case hg => rfl); (case hr => first | (go_simp; done) | (go_simp; rfl)); (case hp => exact (Reps.one (show Kd.M Kd.string _ _ _ (⟨#[]⟩ : ByteArray) [.string (⟨#[]⟩ : ByteArray)] from rfl) (Reps.one (show Kd.M Kd.string _ _ _ (⟨#[97]⟩ : ByteArray) [.string (⟨#[97]⟩ : ByteArray)] from rfl) (Reps.one (show Kd.M Kd.string _ _ _ (⟨#[98]⟩ : ByteArray) [.string (⟨#[98]⟩ : ByteArray)] from rfl) (Reps.one (show Kd.M Kd.string _ _ _ (⟨#[97, 98]⟩ : ByteArray) [.string (⟨#[97, 98]⟩ : ByteArray)] from rfl) (Reps.one (show Kd.M Kd.string _ _ _ (⟨#[97, 32, 98]⟩ : ByteArray) [.string (⟨#[97, 32, 98]⟩ : ByteArray)] from rfl) (Reps.one (show Kd.M Kd.string _ _ _ (⟨#[98, 32, 97, 32, 99]⟩ : ByteArray) [.string (⟨#[98, 32, 97, 32, 99]⟩ : ByteArray)] from rfl) (Reps.one (show Kd.M Kd.string _ _ _ (⟨#[120, 45, 121]⟩ : ByteArray) [.string (⟨#[120, 45, 121]⟩ : ByteArray)] from rfl) (Reps.one (show Kd.M Kd.string _ _ _ (⟨#[45]⟩ : ByteArray) [.string (⟨#[45]⟩ : ByteArray)] from rfl) (Reps.one (show Kd.M Kd.string _ _ _ (⟨#[49, 50]⟩ : ByteArray) [.string (⟨#[49, 50]⟩ : ByteArray)] from rfl) (Reps.one (show Kd.M Kd.string _ _ _ (⟨#[45, 48, 46, 53]⟩ : ByteArray) [.string (⟨#[45, 48, 46, 53]⟩ : ByteArray)] from rfl) (Reps.one (show Kd.M Kd.string _ _ _ (⟨#[97, 34, 98]⟩ : ByteArray) [.string (⟨#[97, 34, 98]⟩ : ByteArray)] from rfl) (Reps.one (show Kd.M Kd.string _ _ _ (⟨#[92]⟩ : ByteArray) [.string (⟨#[92]⟩ : ByteArray)] from rfl) (Reps.one (show Kd.M Kd.string _ _ _ (⟨#[48]⟩ : ByteArray) [.string (⟨#[48]⟩ : ByteArray)] from rfl) (Reps.one (show Kd.M Kd.string _ _ _ (⟨#[55, 46, 50, 53]⟩ : ByteArray) [.string (⟨#[55, 46, 50, 53]⟩ : ByteArray)] from rfl) (Reps.one (show Kd.M Kd.string _ _ _ (⟨#[97, 98, 99, 100, 101, 102, 103, 104, 105, 106, 107, 108, 109, 110, 111, 112, 113, 114, 115, 116, 117, 118, 119, 120, 121, 122, 97, 98, 99, 100, 101, 102, 103, 104, 105, 106, 107, 108, 109, 110]⟩ : ByteArray) [.string (⟨#[97, 98, 99, 100, 101, 102, 103, 104, 105, 106, 107, 108, 109, 110, 111, 112, 113, 114, 115, 116, 117, 118, 119, 120, 121, 122, 97, 98, 99, 100, 101, 102, 103, 104, 105, 106, 107, 108, 109, 110]⟩ : ByteArray)] from rfl) (Reps.none _ _))))))))))))))))); intro v102 w5 ho6 hb hg_ hnew_; clear hg_ hnew_; (first | rw [← Ny101.out] at ho6 | (simp only [Int.reduceToNat] at ho6; rw [← Ny101.out] at ho6)); have n0_ := Aside0.mk (Kd.R_lower ho6 (below_size (by repeat (first | (with_reducible first | exact HB.out | apply below_alloc | apply pw_below_drewN | apply below_drew1) | exact HB.out)))); have n1_ := Aside0.mk (below_step (by repeat (first | (with_reducible first | exact HB.out | apply below_alloc | apply pw_below_drewN | apply below_drew1) | exact HB.out)) hb); clear HB; have HO103 := n0_; have HB := n1_; clear n0_ n1_; clear hb ho6; obtain ⟨Ao7, co7, eo7⟩ := Kd.R_slice HO103.out; subst eo7; have p104 : 0 ≤ ((ji2) : Int) := of_decide_eq_true (by first | (with_reducible assumption) | assumption); have q104 : (ji2) < (y101.length : Int) := of_decide_eq_true (by first | (with_reducible assumption) | assumption); obtain ⟨ad104, e104, hx104_0⟩ := Kd.at_string (Kd.R_reads' HO103.out).2.2 (ji2) p104 q104; cases e104; replace p104 := eq_true p104; replace q104 := eq_true q104))
      go_ret
      exact ⟨by first | rfl | (simp [errW_none, errW_some] <;> rfl) | (simp only [← hji2]; first | rfl | (simp [errW_none, errW_some] <;> rfl)) | (simp [*, errW_none, errW_some] <;> rfl), by repeat (first | (with_reducible first | exact HB.out | apply below_alloc | apply pw_below_drewN | apply below_drew1) | exact HB.out)⟩
    · rw [if_neg c4] at H
      exact absurd H (by simp)
  · rw [if_neg c3] at H
    exact absurd H (by simp)
end Go.Proofs.YteflfnjljjianaaGreatDoor.Qx
namespace Go.Proofs.YteflfnjljjianaaGreatDoor.Qx
open Go.RowKit Go.Proofs.YteflfnjljjianaaGreatDoorW.PrintWords Go.Proofs.YteflfnjljjianaaGreatDoorW.PrintLast Go.Proofs.YteflfnjljjianaaGreatDoorW.PrintMore
attribute [local go_sem] max2_int min2_int max_two min_two
set_option linter.unusedVariables false
set_option linter.unusedSimpArgs false
def chapmanref06_Value.j0 : Nat → Bool → Int → Int → Bool → Int → Int → Option (Int × Int × ByteArray)
  | 0, _, _, _, _, _, _ => none
  | k + 1, x13, x102000, x102001, x102002, x103000, x103001 => if x13 = true then ((chapmanref06_Null.f).bind fun bt104 => (some (bt104.1, bt104.2.1, bt104.2.2))) else (if x102000 = 1 then ((chapmanref06_Bool.f ((Int.tmod x103001 2) == 1)).bind fun bt107 => (some (bt107.1, bt107.2.1, bt107.2.2))) else (if x102000 = 2 then (if (Int.tmod x103000 4) = 1 then ((chapmanref06_Step.f k x102001).bind fun t110 => ((chapmanref06_Num.f (wrap64 ((wrap64 ((wrap64 (Int.tmod x103001 40)) - 12)) * t110))).bind fun bt111 => (some (bt111.1, bt111.2.1, bt111.2.2)))) else ((chapmanref06_Whole.f (wrap64 ((wrap64 (Int.tmod x103001 40)) - 12))).bind fun bt114 => (some (bt114.1, bt114.2.1, bt114.2.2)))) else ((chapmanref06_words.f (wrap64 (x103001))).bind fun t117 => ((chapmanref06_Str.f t117).bind fun bt118 => (some (bt118.1, bt118.2.1, bt118.2.2))))))
def chapmanref06_Value.f (k : Nat) (a0_0 : Int) (a0_1 : Int) (a0_2 : Bool) (a1_0 : Int) (a1_1 : Int) : Option (Int × Int × ByteArray) := if a0_2 = true then (chapmanref06_Value.j0 k ((Int.tmod a1_0 5) == 0) a0_0 a0_1 a0_2 a1_0 a1_1) else (chapmanref06_Value.j0 k false a0_0 a0_1 a0_2 a1_0 a1_1)
set_option maxHeartbeats 8000000 in
set_option maxRecDepth 100000 in
theorem chapmanref06_Value.calls (k : Nat) (a0_0 : Int) (a0_1 : Int) (a0_2 : Bool) (a1_0 : Int) (a1_1 : Int) (r1 : Int) (r2 : Int) (r3 : ByteArray) (w : World) (h : chapmanref06_Value.f k a0_0 a0_1 a0_2 a1_0 a1_1 = some (r1, r2, r3)) :
    Calls Tryz.prog 31 #[.agg #[.int .i64 a0_0, .int .i64 a0_1, .bool a0_2], .agg #[.int .u8 a1_0, .int .u8 a1_1]] w fun e w' => e = .returned (.agg #[.int .i64 r1, .int .i64 r2, .string r3]) ∧ Below w.heap.size w w' := by
  have hu63 := Tryz.underlying63
  have hu70 := Tryz.underlying70
  have hu35 := Tryz.underlying35
  have HB := Aside0.mk (Below.refl w.heap.size w)
  have H : (if a0_2 = true then (chapmanref06_Value.j0 k ((Int.tmod a1_0 5) == 0) a0_0 a0_1 a0_2 a1_0 a1_1) else (chapmanref06_Value.j0 k false a0_0 a0_1 a0_2 a1_0 a1_1)) = some (r1, r2, r3) := h
  clear h
  have HC3 := Aside0.mk H
  clear H
  go_enter Tryz.func31, Tryz.ntmps31
  go_upto_region 1 with (first | ((with_reducible refine gate_dst (N := 2) rfl ?_); refine box_event ?hg (N := 2) ?hd (cs := #[.int .i64 a0_0, .int .i64 a0_1, .bool a0_2]) (t := 63) ?hr ?_; (case hd => rfl); (case hg => rfl); (case hr => first | (go_simp; done) | (go_simp; rfl)); intro gb101 hg w4 hbox hb; have n0_ := Aside0.mk (below_step (by repeat (first | (with_reducible first | exact HB.out | apply below_alloc | apply pw_below_drewN | apply below_drew1) | exact HB.out)) hb); have n1_ := Aside0.mk (hbox); have n2_ := Aside0.mk ((by rw [hg]; exact (below_size (by repeat (first | (with_reducible first | exact HB.out | apply below_alloc | apply pw_below_drewN | apply below_drew1) | exact HB.out))) : w.heap.size ≤ gb101)); have n3_ := Aside0.mk ((by rw [hg]; exact (below_size (by repeat (first | (with_reducible first | exact HB.out | apply below_alloc | apply pw_below_drewN | apply below_drew1) | exact HB.out))) : w.heap.size ≤ gb101)); clear HB; have HB := n0_; have BK101 := n1_; have GW101 := n2_; have GE101 := n3_; clear n0_ n1_ n2_ n3_; clear hb hbox hg) | ((with_reducible refine gate_dst (N := 3) rfl ?_); refine box_event ?hg (N := 3) ?hd (cs := #[.int .u8 a1_0, .int .u8 a1_1]) (t := 70) ?hr ?_; (case hd => rfl); (case hg => rfl); (case hr => first | (go_simp; done) | (go_simp; rfl)); intro gb102 hg w5 hbox hb; have n0_ := Aside0.mk (blk_below (g := gb101) (o := .cells #[.int .i64 a0_0, .int .i64 a0_1, .bool a0_2] 63 (0, 0)) (by (with_reducible repeat (first | refine blk_drewN ?_ _ | refine blk_drew ?_ | refine blk_alloc ?_ _)); exact BK101.out) hb); have n1_ := Aside0.mk (below_step (by repeat (first | (with_reducible first | exact HB.out | apply below_alloc | apply pw_below_drewN | apply below_drew1 | refine below_set ?_ GE101.out) | exact HB.out)) hb); have n2_ := Aside0.mk (hbox); have n3_ := Aside0.mk ((by rw [hg]; exact (below_size (by repeat (first | (with_reducible first | exact HB.out | apply below_alloc | apply pw_below_drewN | apply below_drew1 | refine below_set ?_ GE101.out) | exact HB.out))) : w.heap.size ≤ gb102)); have n4_ := Aside0.mk ((by rw [hg]; exact (below_size (by repeat (first | (with_reducible first | exact HB.out | apply below_alloc | apply pw_below_drewN | apply below_drew1 | refine below_set ?_ GE101.out) | exact HB.out))) : w.heap.size ≤ gb102)); have n5_ := Aside0.mk ((by rw [hg]; exact Nat.ne_of_lt (blk_lt (g := gb101) (o := .cells #[.int .i64 a0_0, .int .i64 a0_1, .bool a0_2] 63 (0, 0)) (by (with_reducible repeat (first | refine blk_drewN ?_ _ | refine blk_drew ?_ | refine blk_alloc ?_ _)); exact BK101.out)) : gb101 ≠ gb102)); have n6_ := Aside0.mk ((by rw [hg]; exact Nat.ne_of_gt (blk_lt (g := gb101) (o := .cells #[.int .i64 a0_0, .int .i64 a0_1, .bool a0_2] 63 (0, 0)) (by (with_reducible repeat (first | refine blk_drewN ?_ _ | refine blk_drew ?_ | refine blk_alloc ?_ _)); exact BK101.out)) : gb102 ≠ gb101)); clear BK101; clear HB; have BK101 := n0_; have HB := n1_; have BK102 := n2_; have GW102 := n3_; have GE102 := n4_; have NB101_102 := n5_; have NB102_101 := n6_; clear n0_ n1_ n2_ n3_ n4_ n5_ n6_; clear hb hbox hg) | ((with_reducible refine gate_dst (N := 4) rfl ?_); refine box_event ?hg (N := 4) ?hd (cs := #[.int .i64 0, .int .i64 0, .string (⟨#[]⟩ : ByteArray)]) (t := 35) ?hr ?_; (case hd => rfl); (case hg => rfl); (case hr => first | (go_simp; done) | (go_simp; rfl)); intro gb103 hg w6 hbox hb; have n0_ := Aside0.mk (blk_below (g := gb101) (o := .cells #[.int .i64 a0_0, .int .i64 a0_1, .bool a0_2] 63 (0, 0)) (by (with_reducible repeat (first | refine blk_drewN ?_ _ | refine blk_drew ?_ | refine blk_alloc ?_ _)); exact BK101.out) hb); have n1_ := Aside0.mk (blk_below (g := gb102) (o := .cells #[.int .u8 a1_0, .int .u8 a1_1] 70 (0, 0)) (by (with_reducible repeat (first | refine blk_drewN ?_ _ | refine blk_drew ?_ | refine blk_alloc ?_ _)); exact BK102.out) hb); have n2_ := Aside0.mk (below_step (by repeat (first | (with_reducible first | exact HB.out | apply below_alloc | apply pw_below_drewN | apply below_drew1 | refine below_set ?_ GE101.out | refine below_set ?_ GE102.out) | exact HB.out)) hb); have n3_ := Aside0.mk (hbox); have n4_ := Aside0.mk ((by rw [hg]; exact (below_size (by repeat (first | (with_reducible first | exact HB.out | apply below_alloc | apply pw_below_drewN | apply below_drew1 | refine below_set ?_ GE101.out | refine below_set ?_ GE102.out) | exact HB.out))) : w.heap.size ≤ gb103)); have n5_ := Aside0.mk ((by rw [hg]; exact (below_size (by repeat (first | (with_reducible first | exact HB.out | apply below_alloc | apply pw_below_drewN | apply below_drew1 | refine below_set ?_ GE101.out | refine below_set ?_ GE102.out) | exact HB.out))) : w.heap.size ≤ gb103)); have n6_ := Aside0.mk ((by rw [hg]; exact Nat.ne_of_lt (blk_lt (g := gb101) (o := .cells #[.int .i64 a0_0, .int .i64 a0_1, .bool a0_2] 63 (0, 0)) (by (with_reducible repeat (first | refine blk_drewN ?_ _ | refine blk_drew ?_ | refine blk_alloc ?_ _)); exact BK101.out)) : gb101 ≠ gb103)); have n7_ := Aside0.mk ((by rw [hg]; exact Nat.ne_of_gt (blk_lt (g := gb101) (o := .cells #[.int .i64 a0_0, .int .i64 a0_1, .bool a0_2] 63 (0, 0)) (by (with_reducible repeat (first | refine blk_drewN ?_ _ | refine blk_drew ?_ | refine blk_alloc ?_ _)); exact BK101.out)) : gb103 ≠ gb101)); have n8_ := Aside0.mk ((by rw [hg]; exact Nat.ne_of_lt (blk_lt (g := gb102) (o := .cells #[.int .u8 a1_0, .int .u8 a1_1] 70 (0, 0)) (by (with_reducible repeat (first | refine blk_drewN ?_ _ | refine blk_drew ?_ | refine blk_alloc ?_ _)); exact BK102.out)) : gb102 ≠ gb103)); have n9_ := Aside0.mk ((by rw [hg]; exact Nat.ne_of_gt (blk_lt (g := gb102) (o := .cells #[.int .u8 a1_0, .int .u8 a1_1] 70 (0, 0)) (by (with_reducible repeat (first | refine blk_drewN ?_ _ | refine blk_drew ?_ | refine blk_alloc ?_ _)); exact BK102.out)) : gb103 ≠ gb102)); clear BK101; clear BK102; clear HB; have BK101 := n0_; have BK102 := n1_; have HB := n2_; have BK103 := n3_; have GW103 := n4_; have GE103 := n5_; have NB101_103 := n6_; have NB103_101 := n7_; have NB102_103 := n8_; have NB103_102 := n9_; clear n0_ n1_ n2_ n3_ n4_ n5_ n6_ n7_ n8_ n9_; clear hb hbox hg))
  (try simp only [Act.put, List.setIfInBounds_toArray, List.set_cons_zero, List.set_cons_succ])
  go_cut [13] (fun v13 wc => ∃ (kq : Nat) (x13_2 : Bool), v13 = .bool x13_2 ∧ Aside0 (chapmanref06_Value.j0 kq x13_2 a0_0 a0_1 a0_2 a1_0 a1_1 = some (r1, r2, r3)) ∧ Aside0 (kq ≤ k) ∧ Aside0 (wc.heap[gb101]? = some (.cells #[.int .i64 a0_0, .int .i64 a0_1, .bool a0_2] 63 (0, 0))) ∧ Aside0 (wc.heap[gb102]? = some (.cells #[.int .u8 a1_0, .int .u8 a1_1] 70 (0, 0))) ∧ Aside0 (wc.heap[gb103]? = some (.cells #[.int .i64 0, .int .i64 0, .string (⟨#[]⟩ : ByteArray)] 35 (0, 0))) ∧ Aside0 (Below w.heap.size w wc))
  case first =>
    have H := HC3.out
    clear HC3
    by_cases c7 : a0_2 = true
    · subst c7
      have H1 : (chapmanref06_Value.j0 k ((Int.tmod a1_0 5) == 0) a0_0 a0_1 true a1_0 a1_1) = some (r1, r2, r3) := by rw [if_pos rfl] at H; exact H
      clear H
      have H := H1
      clear H1
      have H' := Aside0.mk H
      clear H
      have hnb8 := NB101_102.out
      have hnc8 := NB102_101.out
      have hnb9 := NB101_103.out
      have hnc9 := NB103_101.out
      have hcz10_0 : w6.cell? ⟨gb101, 0, none⟩ = some (.int .i64 a0_0) := (blk_cell BK101.out 0).trans rfl
      have hcz10_1 : w6.cell? ⟨gb101, 1, none⟩ = some (.int .i64 a0_1) := (blk_cell BK101.out 1).trans rfl
      have hcz10_2 : w6.cell? ⟨gb101, 2, none⟩ = some (.bool true) := (blk_cell BK101.out 2).trans rfl
      have hfz10_0 := blk_frozen BK101.out 0
      have hfz10_1 := blk_frozen BK101.out 1
      have hfz10_2 := blk_frozen BK101.out 2
      have hnb11 := NB102_103.out
      have hnc11 := NB103_102.out
      have hcz12_0 : w6.cell? ⟨gb102, 0, none⟩ = some (.int .u8 a1_0) := (blk_cell BK102.out 0).trans rfl
      have hcz12_1 : w6.cell? ⟨gb102, 1, none⟩ = some (.int .u8 a1_1) := (blk_cell BK102.out 1).trans rfl
      have hfz12_0 := blk_frozen BK102.out 0
      have hfz12_1 := blk_frozen BK102.out 1
      go_wp2
      go_meet
      case rel => exact ⟨_, (((Int.tmod a1_0 5) == 0)), (by first | rfl | (simp; done) | (simp [*]; done)), H', ⟨by first | omega | exact Nat.le_refl _⟩, ⟨by (with_reducible repeat (first | refine blk_drewN ?_ _ | refine blk_drew ?_ | refine blk_alloc ?_ _)); exact BK101.out⟩, ⟨by (with_reducible repeat (first | refine blk_drewN ?_ _ | refine blk_drew ?_ | refine blk_alloc ?_ _)); exact BK102.out⟩, ⟨by (with_reducible repeat (first | refine blk_drewN ?_ _ | refine blk_drew ?_ | refine blk_alloc ?_ _)); exact BK103.out⟩, ⟨by repeat (first | (with_reducible first | exact HB.out | apply below_alloc | apply pw_below_drewN | apply below_drew1 | refine below_set ?_ GE101.out | refine below_set ?_ GE102.out | refine below_set ?_ GE103.out) | exact HB.out)⟩⟩
    · replace c7 := Bool.eq_false_iff.mpr c7
      subst c7
      have H1 : (chapmanref06_Value.j0 k false a0_0 a0_1 false a1_0 a1_1) = some (r1, r2, r3) := by rw [if_neg (show ¬ (false = true) by decide)] at H; exact H
      clear H
      have H := H1
      clear H1
      have H' := Aside0.mk H
      clear H
      have hnb13 := NB101_102.out
      have hnc13 := NB102_101.out
      have hnb14 := NB101_103.out
      have hnc14 := NB103_101.out
      have hcz15_0 : w6.cell? ⟨gb101, 0, none⟩ = some (.int .i64 a0_0) := (blk_cell BK101.out 0).trans rfl
      have hcz15_1 : w6.cell? ⟨gb101, 1, none⟩ = some (.int .i64 a0_1) := (blk_cell BK101.out 1).trans rfl
      have hcz15_2 : w6.cell? ⟨gb101, 2, none⟩ = some (.bool false) := (blk_cell BK101.out 2).trans rfl
      have hfz15_0 := blk_frozen BK101.out 0
      have hfz15_1 := blk_frozen BK101.out 1
      have hfz15_2 := blk_frozen BK101.out 2
      go_wp2
      go_meet
      case rel => exact ⟨_, (false), (by first | rfl | (simp; done) | (simp [*]; done)), H', ⟨by first | omega | exact Nat.le_refl _⟩, ⟨by (with_reducible repeat (first | refine blk_drewN ?_ _ | refine blk_drew ?_ | refine blk_alloc ?_ _)); exact BK101.out⟩, ⟨by (with_reducible repeat (first | refine blk_drewN ?_ _ | refine blk_drew ?_ | refine blk_alloc ?_ _)); exact BK102.out⟩, ⟨by (with_reducible repeat (first | refine blk_drewN ?_ _ | refine blk_drew ?_ | refine blk_alloc ?_ _)); exact BK103.out⟩, ⟨by repeat (first | (with_reducible first | exact HB.out | apply below_alloc | apply pw_below_drewN | apply below_drew1 | refine below_set ?_ GE101.out | refine below_set ?_ GE102.out | refine below_set ?_ GE103.out) | exact HB.out)⟩⟩
  case rest =>
    clear HC3
    try clear c1
    try clear p2
    try clear c3
    try clear c7
    try clear c8
    try clear c9
    try clear c11
    try clear c13
    try clear c14
    try clear hcz10_0
    try clear hcz10_1
    try clear hcz10_2
    try clear hcz12_0
    try clear hcz12_1
    try clear hcz15_0
    try clear hcz15_1
    try clear hcz15_2
    try clear hfz10_0
    try clear hfz10_1
    try clear hfz10_2
    try clear hfz12_0
    try clear hfz12_1
    try clear hfz15_0
    try clear hfz15_1
    try clear hfz15_2
    obtain ⟨kq, x13_2, rfl, HA, HJ2, BK101, BK102, BK103, HB⟩ := hcut
    cases kq with
    | zero => exact absurd HA.out (by simp [chapmanref06_Value.j0])
    | succ kj2 =>
      have H := HA.out
      clear HA
      simp only [chapmanref06_Value.j0] at H
      by_cases c16 : x13_2 = true
      · subst c16
        have H1 : ((chapmanref06_Null.f).bind fun bt104 => (some (bt104.1, bt104.2.1, bt104.2.2))) = some (r1, r2, r3) := by rw [if_pos rfl] at H; exact H
        clear H
        have H := H1
        clear H1
        replace H := Option.bind_eq_some_iff.mp H
        obtain ⟨⟨t104, t105, t106⟩, A170, H⟩ := H
        replace H : (some (t104, t105, t106)) = some (r1, r2, r3) := H
        have A17 := Aside0.mk A170
        clear A170
        simp only [Option.some.injEq, Prod.mk.injEq] at H
        obtain ⟨rfl, rfl, rfl⟩ := H
        go_wp2_with (first | ((with_reducible refine gate_callee (f := 15) rfl ?_); refine goesL_ (some 14) rfl rfl Tryz.func15 (by kernel_rfl) rfl #[] rfl (by (try simp only [List.map_toArray, List.map_cons, List.map_nil]); first | done | rfl | (simp only [List.length_drop, List.length_take]; rfl)) ?_; (with_reducible refine (chapmanref06_Null.calls  t104 t105 t106 _ A17.out).mono ?_); rintro e w18 ⟨rfl, hb⟩; refine ⟨_, rfl, ?_⟩; have n0_ := Aside0.mk (blk_below (g := gb101) (o := .cells #[.int .i64 a0_0, .int .i64 a0_1, .bool a0_2] 63 (0, 0)) (by (with_reducible repeat (first | refine blk_drewN ?_ _ | refine blk_drew ?_ | refine blk_alloc ?_ _)); exact BK101.out) hb); have n1_ := Aside0.mk (blk_below (g := gb102) (o := .cells #[.int .u8 a1_0, .int .u8 a1_1] 70 (0, 0)) (by (with_reducible repeat (first | refine blk_drewN ?_ _ | refine blk_drew ?_ | refine blk_alloc ?_ _)); exact BK102.out) hb); have n2_ := Aside0.mk (blk_below (g := gb103) (o := .cells #[.int .i64 0, .int .i64 0, .string (⟨#[]⟩ : ByteArray)] 35 (0, 0)) (by (with_reducible repeat (first | refine blk_drewN ?_ _ | refine blk_drew ?_ | refine blk_alloc ?_ _)); exact BK103.out) hb); have n3_ := Aside0.mk (below_step (by repeat (first | (with_reducible first | exact HB.out | apply below_alloc | apply pw_below_drewN | apply below_drew1 | refine below_set ?_ GE101.out | refine below_set ?_ GE102.out | refine below_set ?_ GE103.out) | exact HB.out)) hb); clear BK101; clear BK102; clear BK103; clear HB; have BK101 := n0_; have BK102 := n1_; have BK103 := n2_; have HB := n3_; clear n0_ n1_ n2_ n3_; (try clear hb); (try clear hb2); (try clear hk); (try clear hi); have hnb19 := NB103_101.out; have hnc19 := NB101_103.out; have hnb20 := NB103_102.out; have hnc20 := NB102_103.out; have hcz21_0 : w18.cell? ⟨gb103, 0, none⟩ = some (.int .i64 0) := (blk_cell BK103.out 0).trans rfl; have hcz21_1 : w18.cell? ⟨gb103, 1, none⟩ = some (.int .i64 0) := (blk_cell BK103.out 1).trans rfl; have hcz21_2 : w18.cell? ⟨gb103, 2, none⟩ = some (.string (⟨#[]⟩ : ByteArray)) := (blk_cell BK103.out 2).trans rfl; have hfz21_0 := blk_frozen BK103.out 0; have hfz21_1 := blk_frozen BK103.out 1; have hfz21_2 := blk_frozen BK103.out 2))
        refine bodyPost_ret (results_cell_row rfl _ _ gb103 35 #[.int .i64 t104, .int .i64 t105, .string t106] (0, 0) _ rfl (by (with_reducible repeat (first | refine blk_drewN ?_ _ | refine blk_drew ?_ | refine blk_alloc ?_ _)); refine blk_put (cs := #[.int .i64 t104, .int .i64 t105, .string (⟨#[]⟩ : ByteArray)]) ?_ 2 _ rfl; (with_reducible repeat (first | refine blk_drewN ?_ _ | refine blk_drew ?_ | refine blk_alloc ?_ _)); refine blk_put (cs := #[.int .i64 t104, .int .i64 0, .string (⟨#[]⟩ : ByteArray)]) ?_ 1 _ rfl; (with_reducible repeat (first | refine blk_drewN ?_ _ | refine blk_drew ?_ | refine blk_alloc ?_ _)); refine blk_put (cs := #[.int .i64 0, .int .i64 0, .string (⟨#[]⟩ : ByteArray)]) ?_ 0 _ rfl; (with_reducible repeat (first | refine blk_drewN ?_ _ | refine blk_drew ?_ | refine blk_alloc ?_ _)); exact BK103.out) Tryz.underlying35 rfl (by kernel_rfl)) rfl ?_
        exact ⟨by first | rfl | (simp [errW_none, errW_some] <;> rfl) | (simp [*, errW_none, errW_some] <;> rfl), by repeat (first | (with_reducible first | exact HB.out | apply below_alloc | apply pw_below_drewN | apply below_drew1 | refine below_set ?_ GE101.out | refine below_set ?_ GE102.out | refine below_set ?_ GE103.out) | exact HB.out)⟩
      · replace c16 := Bool.eq_false_iff.mpr c16
        subst c16
        have H1 : (if a0_0 = 1 then ((chapmanref06_Bool.f ((Int.tmod a1_1 2) == 1)).bind fun bt107 => (some (bt107.1, bt107.2.1, bt107.2.2))) else (if a0_0 = 2 then (if (Int.tmod a1_0 4) = 1 then ((chapmanref06_Step.f kj2 a0_1).bind fun t110 => ((chapmanref06_Num.f (wrap64 ((wrap64 ((wrap64 (Int.tmod a1_1 40)) - 12)) * t110))).bind fun bt111 => (some (bt111.1, bt111.2.1, bt111.2.2)))) else ((chapmanref06_Whole.f (wrap64 ((wrap64 (Int.tmod a1_1 40)) - 12))).bind fun bt114 => (some (bt114.1, bt114.2.1, bt114.2.2)))) else ((chapmanref06_words.f (wrap64 (a1_1))).bind fun t117 => ((chapmanref06_Str.f t117).bind fun bt118 => (some (bt118.1, bt118.2.1, bt118.2.2)))))) = some (r1, r2, r3) := by rw [if_neg (show ¬ (false = true) by decide)] at H; exact H
        clear H
        have H := H1
        clear H1
        by_cases c22 : a0_0 = 1
        · rw [if_pos c22] at H
          have c22b0 : (a0_0 == 1) = true := beq_iff_eq.mpr c22
          have c22b1 : (a0_0 != 1) = false := bne_eq_false_iff_eq.mpr c22
          clear c22
          replace H := Option.bind_eq_some_iff.mp H
          obtain ⟨⟨t107, t108, t109⟩, A230, H⟩ := H
          replace H : (some (t107, t108, t109)) = some (r1, r2, r3) := H
          have A23 := Aside0.mk A230
          clear A230
          simp only [Option.some.injEq, Prod.mk.injEq] at H
          obtain ⟨rfl, rfl, rfl⟩ := H
          have hnb24 := NB101_102.out
          have hnc24 := NB102_101.out
          have hnb25 := NB101_103.out
          have hnc25 := NB103_101.out
          have hcz26_0 : wc.cell? ⟨gb101, 0, none⟩ = some (.int .i64 a0_0) := (blk_cell BK101.out 0).trans rfl
          have hcz26_1 : wc.cell? ⟨gb101, 1, none⟩ = some (.int .i64 a0_1) := (blk_cell BK101.out 1).trans rfl
          have hcz26_2 : wc.cell? ⟨gb101, 2, none⟩ = some (.bool a0_2) := (blk_cell BK101.out 2).trans rfl
          have hfz26_0 := blk_frozen BK101.out 0
          have hfz26_1 := blk_frozen BK101.out 1
          have hfz26_2 := blk_frozen BK101.out 2
          have hnb27 := NB102_103.out
          have hnc27 := NB103_102.out
          have hcz28_0 : wc.cell? ⟨gb102, 0, none⟩ = some (.int .u8 a1_0) := (blk_cell BK102.out 0).trans rfl
          have hcz28_1 : wc.cell? ⟨gb102, 1, none⟩ = some (.int .u8 a1_1) := (blk_cell BK102.out 1).trans rfl
          have hfz28_0 := blk_frozen BK102.out 0
          have hfz28_1 := blk_frozen BK102.out 1
          go_wp2_with (first | ((with_reducible refine gate_callee (f := 61) rfl ?_); refine goesL_ (some 23) rfl rfl Tryz.func61 (by kernel_rfl) rfl #[.bool ((Int.tmod a1_1 2) == 1)] rfl (by (try simp only [List.map_toArray, List.map_cons, List.map_nil]); first | done | rfl | (simp only [List.length_drop, List.length_take]; rfl)) ?_; (with_reducible refine (chapmanref06_Bool.calls ((Int.tmod a1_1 2) == 1) t107 t108 t109 _ A23.out).mono ?_); rintro e w29 ⟨rfl, hb⟩; refine ⟨_, rfl, ?_⟩; have n0_ := Aside0.mk (blk_below (g := gb101) (o := .cells #[.int .i64 a0_0, .int .i64 a0_1, .bool a0_2] 63 (0, 0)) (by (with_reducible repeat (first | refine blk_drewN ?_ _ | refine blk_drew ?_ | refine blk_alloc ?_ _)); exact BK101.out) hb); have n1_ := Aside0.mk (blk_below (g := gb102) (o := .cells #[.int .u8 a1_0, .int .u8 a1_1] 70 (0, 0)) (by (with_reducible repeat (first | refine blk_drewN ?_ _ | refine blk_drew ?_ | refine blk_alloc ?_ _)); exact BK102.out) hb); have n2_ := Aside0.mk (blk_below (g := gb103) (o := .cells #[.int .i64 0, .int .i64 0, .string (⟨#[]⟩ : ByteArray)] 35 (0, 0)) (by (with_reducible repeat (first | refine blk_drewN ?_ _ | refine blk_drew ?_ | refine blk_alloc ?_ _)); exact BK103.out) hb); have n3_ := Aside0.mk (below_step (by repeat (first | (with_reducible first | exact HB.out | apply below_alloc | apply pw_below_drewN | apply below_drew1 | refine below_set ?_ GE101.out | refine below_set ?_ GE102.out | refine below_set ?_ GE103.out) | exact HB.out)) hb); clear BK101; clear BK102; clear BK103; clear HB; have BK101 := n0_; have BK102 := n1_; have BK103 := n2_; have HB := n3_; clear n0_ n1_ n2_ n3_; (try clear hb); (try clear hb2); (try clear hk); (try clear hi); have hcz30_0 : w29.cell? ⟨gb103, 0, none⟩ = some (.int .i64 0) := (blk_cell BK103.out 0).trans rfl; have hcz30_1 : w29.cell? ⟨gb103, 1, none⟩ = some (.int .i64 0) := (blk_cell BK103.out 1).trans rfl; have hcz30_2 : w29.cell? ⟨gb103, 2, none⟩ = some (.string (⟨#[]⟩ : ByteArray)) := (blk_cell BK103.out 2).trans rfl; have hfz30_0 := blk_frozen BK103.out 0; have hfz30_1 := blk_frozen BK103.out 1; have hfz30_2 := blk_frozen BK103.out 2))
          refine bodyPost_ret (results_cell_row rfl _ _ gb103 35 #[.int .i64 t107, .int .i64 t108, .string t109] (0, 0) _ rfl (by (with_reducible repeat (first | refine blk_drewN ?_ _ | refine blk_drew ?_ | refine blk_alloc ?_ _)); refine blk_put (cs := #[.int .i64 t107, .int .i64 t108, .string (⟨#[]⟩ : ByteArray)]) ?_ 2 _ rfl; (with_reducible repeat (first | refine blk_drewN ?_ _ | refine blk_drew ?_ | refine blk_alloc ?_ _)); refine blk_put (cs := #[.int .i64 t107, .int .i64 0, .string (⟨#[]⟩ : ByteArray)]) ?_ 1 _ rfl; (with_reducible repeat (first | refine blk_drewN ?_ _ | refine blk_drew ?_ | refine blk_alloc ?_ _)); refine blk_put (cs := #[.int .i64 0, .int .i64 0, .string (⟨#[]⟩ : ByteArray)]) ?_ 0 _ rfl; (with_reducible repeat (first | refine blk_drewN ?_ _ | refine blk_drew ?_ | refine blk_alloc ?_ _)); exact BK103.out) Tryz.underlying35 rfl (by kernel_rfl)) rfl ?_
          exact ⟨by first | rfl | (simp [errW_none, errW_some] <;> rfl) | (simp [*, errW_none, errW_some] <;> rfl), by repeat (first | (with_reducible first | exact HB.out | apply below_alloc | apply pw_below_drewN | apply below_drew1 | refine below_set ?_ GE101.out | refine below_set ?_ GE102.out | refine below_set ?_ GE103.out) | exact HB.out)⟩
        · rw [if_neg c22] at H
          have c22b0 : (a0_0 == 1) = false := beq_eq_false_iff_ne.mpr c22
          have c22b1 : (a0_0 != 1) = true := bne_iff_ne.mpr c22
          by_cases c31 : a0_0 = 2
          · rw [if_pos c31] at H
            have c31b0 : (a0_0 == 2) = true := beq_iff_eq.mpr c31
            have c31b1 : (a0_0 != 2) = false := bne_eq_false_iff_eq.mpr c31
            clear c31
            by_cases c32 : (Int.tmod a1_0 4) = 1
            · rw [if_pos c32] at H
              have c32b0 : ((Int.tmod a1_0 4) == 1) = true := beq_iff_eq.mpr c32
              have c32b1 : ((Int.tmod a1_0 4) != 1) = false := bne_eq_false_iff_eq.mpr c32
              clear c32
              replace H := Option.bind_eq_some_iff.mp H
              obtain ⟨t110, A330, H⟩ := H
              replace H : ((chapmanref06_Num.f (wrap64 ((wrap64 ((wrap64 (Int.tmod a1_1 40)) - 12)) * t110))).bind fun bt111 => (some (bt111.1, bt111.2.1, bt111.2.2))) = some (r1, r2, r3) := H
              have A33 := Aside0.mk A330
              clear A330
              replace H := Option.bind_eq_some_iff.mp H
              obtain ⟨⟨t111, t112, t113⟩, A340, H⟩ := H
              replace H : (some (t111, t112, t113)) = some (r1, r2, r3) := H
              have A34 := Aside0.mk A340
              clear A340
              simp only [Option.some.injEq, Prod.mk.injEq] at H
              obtain ⟨rfl, rfl, rfl⟩ := H
              have hnb35 := NB101_102.out
              have hnc35 := NB102_101.out
              have hnb36 := NB101_103.out
              have hnc36 := NB103_101.out
              have hcz37_0 : wc.cell? ⟨gb101, 0, none⟩ = some (.int .i64 a0_0) := (blk_cell BK101.out 0).trans rfl
              have hcz37_1 : wc.cell? ⟨gb101, 1, none⟩ = some (.int .i64 a0_1) := (blk_cell BK101.out 1).trans rfl
              have hcz37_2 : wc.cell? ⟨gb101, 2, none⟩ = some (.bool a0_2) := (blk_cell BK101.out 2).trans rfl
              have hfz37_0 := blk_frozen BK101.out 0
              have hfz37_1 := blk_frozen BK101.out 1
              have hfz37_2 := blk_frozen BK101.out 2
              have hnb38 := NB102_103.out
              have hnc38 := NB103_102.out
              have hcz39_0 : wc.cell? ⟨gb102, 0, none⟩ = some (.int .u8 a1_0) := (blk_cell BK102.out 0).trans rfl
              have hcz39_1 : wc.cell? ⟨gb102, 1, none⟩ = some (.int .u8 a1_1) := (blk_cell BK102.out 1).trans rfl
              have hfz39_0 := blk_frozen BK102.out 0
              have hfz39_1 := blk_frozen BK102.out 1
              go_wp2_with (first | ((with_reducible refine gate_callee (f := 62) rfl ?_); refine goesL_ (some 38) rfl rfl Tryz.func62 (by kernel_rfl) rfl #[.int .i64 a0_1] rfl (by (try simp only [List.map_toArray, List.map_cons, List.map_nil]); first | done | rfl | (simp only [List.length_drop, List.length_take]; rfl)) ?_; (with_reducible refine (chapmanref06_Step.calls kj2 a0_1 t110 _ A33.out).mono ?_); rintro e w' ⟨rfl, ⟨nd, rfl⟩⟩; refine ⟨_, rfl, ?_⟩; (try (rw [drewN_self wc]; generalize hq_ : World.drewN wc _ = wc; have n0_ : Aside0 (wc.heap[gb101]? = some (.cells #[.int .i64 a0_0, .int .i64 a0_1, .bool a0_2] 63 (0, 0))) := ⟨by rw [← hq_]; exact (by (with_reducible repeat (first | refine blk_drewN ?_ _ | refine blk_drew ?_ | refine blk_alloc ?_ _)); exact BK101.out)⟩; have n1_ : Aside0 (wc.heap[gb102]? = some (.cells #[.int .u8 a1_0, .int .u8 a1_1] 70 (0, 0))) := ⟨by rw [← hq_]; exact (by (with_reducible repeat (first | refine blk_drewN ?_ _ | refine blk_drew ?_ | refine blk_alloc ?_ _)); exact BK102.out)⟩; have n2_ : Aside0 (wc.heap[gb103]? = some (.cells #[.int .i64 0, .int .i64 0, .string (⟨#[]⟩ : ByteArray)] 35 (0, 0))) := ⟨by rw [← hq_]; exact (by (with_reducible repeat (first | refine blk_drewN ?_ _ | refine blk_drew ?_ | refine blk_alloc ?_ _)); exact BK103.out)⟩; have n3_ : Aside0 (Below w.heap.size w wc) := ⟨by rw [← hq_]; exact (by repeat (first | (with_reducible first | exact HB.out | apply below_alloc | apply pw_below_drewN | apply below_drew1 | refine below_set ?_ GE101.out | refine below_set ?_ GE102.out | refine below_set ?_ GE103.out) | exact HB.out))⟩; clear BK101 BK102 BK103 HB hq_; have BK101 := n0_; have BK102 := n1_; have BK103 := n2_; have HB := n3_; clear n0_ n1_ n2_ n3_))) | ((with_reducible refine gate_callee (f := 37) rfl ?_); refine goesL_ (some 40) rfl rfl Tryz.func37 (by kernel_rfl) rfl #[.int .i64 (wrap64 ((wrap64 ((wrap64 (Int.tmod a1_1 40)) - 12)) * t110))] rfl (by (try simp only [List.map_toArray, List.map_cons, List.map_nil]); first | done | rfl | (simp only [List.length_drop, List.length_take]; rfl)) ?_; (with_reducible refine (chapmanref06_Num.calls (wrap64 ((wrap64 ((wrap64 (Int.tmod a1_1 40)) - 12)) * t110)) t111 t112 t113 _ A34.out).mono ?_); rintro e w40 ⟨rfl, hb⟩; refine ⟨_, rfl, ?_⟩; have n0_ := Aside0.mk (blk_below (g := gb101) (o := .cells #[.int .i64 a0_0, .int .i64 a0_1, .bool a0_2] 63 (0, 0)) (by (with_reducible repeat (first | refine blk_drewN ?_ _ | refine blk_drew ?_ | refine blk_alloc ?_ _)); exact BK101.out) hb); have n1_ := Aside0.mk (blk_below (g := gb102) (o := .cells #[.int .u8 a1_0, .int .u8 a1_1] 70 (0, 0)) (by (with_reducible repeat (first | refine blk_drewN ?_ _ | refine blk_drew ?_ | refine blk_alloc ?_ _)); exact BK102.out) hb); have n2_ := Aside0.mk (blk_below (g := gb103) (o := .cells #[.int .i64 0, .int .i64 0, .string (⟨#[]⟩ : ByteArray)] 35 (0, 0)) (by (with_reducible repeat (first | refine blk_drewN ?_ _ | refine blk_drew ?_ | refine blk_alloc ?_ _)); exact BK103.out) hb); have n3_ := Aside0.mk (below_step (by repeat (first | (with_reducible first | exact HB.out | apply below_alloc | apply pw_below_drewN | apply below_drew1 | refine below_set ?_ GE101.out | refine below_set ?_ GE102.out | refine below_set ?_ GE103.out) | exact HB.out)) hb); clear BK101; clear BK102; clear BK103; clear HB; have BK101 := n0_; have BK102 := n1_; have BK103 := n2_; have HB := n3_; clear n0_ n1_ n2_ n3_; (try clear hb); (try clear hb2); (try clear hk); (try clear hi); have hcz41_0 : w40.cell? ⟨gb103, 0, none⟩ = some (.int .i64 0) := (blk_cell BK103.out 0).trans rfl; have hcz41_1 : w40.cell? ⟨gb103, 1, none⟩ = some (.int .i64 0) := (blk_cell BK103.out 1).trans rfl; have hcz41_2 : w40.cell? ⟨gb103, 2, none⟩ = some (.string (⟨#[]⟩ : ByteArray)) := (blk_cell BK103.out 2).trans rfl; have hfz41_0 := blk_frozen BK103.out 0; have hfz41_1 := blk_frozen BK103.out 1; have hfz41_2 := blk_frozen BK103.out 2))
              refine bodyPost_ret (results_cell_row rfl _ _ gb103 35 #[.int .i64 t111, .int .i64 t112, .string t113] (0, 0) _ rfl (by (with_reducible repeat (first | refine blk_drewN ?_ _ | refine blk_drew ?_ | refine blk_alloc ?_ _)); refine blk_put (cs := #[.int .i64 t111, .int .i64 t112, .string (⟨#[]⟩ : ByteArray)]) ?_ 2 _ rfl; (with_reducible repeat (first | refine blk_drewN ?_ _ | refine blk_drew ?_ | refine blk_alloc ?_ _)); refine blk_put (cs := #[.int .i64 t111, .int .i64 0, .string (⟨#[]⟩ : ByteArray)]) ?_ 1 _ rfl; (with_reducible repeat (first | refine blk_drewN ?_ _ | refine blk_drew ?_ | refine blk_alloc ?_ _)); refine blk_put (cs := #[.int .i64 0, .int .i64 0, .string (⟨#[]⟩ : ByteArray)]) ?_ 0 _ rfl; (with_reducible repeat (first | refine blk_drewN ?_ _ | refine blk_drew ?_ | refine blk_alloc ?_ _)); exact BK103.out) Tryz.underlying35 rfl (by kernel_rfl)) rfl ?_
              exact ⟨by first | rfl | (simp [errW_none, errW_some] <;> rfl) | (simp [*, errW_none, errW_some] <;> rfl), by repeat (first | (with_reducible first | exact HB.out | apply below_alloc | apply pw_below_drewN | apply below_drew1 | refine below_set ?_ GE101.out | refine below_set ?_ GE102.out | refine below_set ?_ GE103.out) | exact HB.out)⟩
            · rw [if_neg c32] at H
              have c32b0 : ((Int.tmod a1_0 4) == 1) = false := beq_eq_false_iff_ne.mpr c32
              have c32b1 : ((Int.tmod a1_0 4) != 1) = true := bne_iff_ne.mpr c32
              replace H := Option.bind_eq_some_iff.mp H
              obtain ⟨⟨t114, t115, t116⟩, A420, H⟩ := H
              replace H : (some (t114, t115, t116)) = some (r1, r2, r3) := H
              have A42 := Aside0.mk A420
              clear A420
              simp only [Option.some.injEq, Prod.mk.injEq] at H
              obtain ⟨rfl, rfl, rfl⟩ := H
              have hnb43 := NB101_102.out
              have hnc43 := NB102_101.out
              have hnb44 := NB101_103.out
              have hnc44 := NB103_101.out
              have hcz45_0 : wc.cell? ⟨gb101, 0, none⟩ = some (.int .i64 a0_0) := (blk_cell BK101.out 0).trans rfl
              have hcz45_1 : wc.cell? ⟨gb101, 1, none⟩ = some (.int .i64 a0_1) := (blk_cell BK101.out 1).trans rfl
              have hcz45_2 : wc.cell? ⟨gb101, 2, none⟩ = some (.bool a0_2) := (blk_cell BK101.out 2).trans rfl
              have hfz45_0 := blk_frozen BK101.out 0
              have hfz45_1 := blk_frozen BK101.out 1
              have hfz45_2 := blk_frozen BK101.out 2
              have hnb46 := NB102_103.out
              have hnc46 := NB103_102.out
              have hcz47_0 : wc.cell? ⟨gb102, 0, none⟩ = some (.int .u8 a1_0) := (blk_cell BK102.out 0).trans rfl
              have hcz47_1 : wc.cell? ⟨gb102, 1, none⟩ = some (.int .u8 a1_1) := (blk_cell BK102.out 1).trans rfl
              have hfz47_0 := blk_frozen BK102.out 0
              have hfz47_1 := blk_frozen BK102.out 1
              go_wp2_with (first | ((with_reducible refine gate_callee (f := 16) rfl ?_); refine goesL_ (some 42) rfl rfl Tryz.func16 (by kernel_rfl) rfl #[.int .i64 (wrap64 ((wrap64 (Int.tmod a1_1 40)) - 12))] rfl (by (try simp only [List.map_toArray, List.map_cons, List.map_nil]); first | done | rfl | (simp only [List.length_drop, List.length_take]; rfl)) ?_; (with_reducible refine (chapmanref06_Whole.calls (wrap64 ((wrap64 (Int.tmod a1_1 40)) - 12)) t114 t115 t116 _ A42.out).mono ?_); rintro e w48 ⟨rfl, hb⟩; refine ⟨_, rfl, ?_⟩; have n0_ := Aside0.mk (blk_below (g := gb101) (o := .cells #[.int .i64 a0_0, .int .i64 a0_1, .bool a0_2] 63 (0, 0)) (by (with_reducible repeat (first | refine blk_drewN ?_ _ | refine blk_drew ?_ | refine blk_alloc ?_ _)); exact BK101.out) hb); have n1_ := Aside0.mk (blk_below (g := gb102) (o := .cells #[.int .u8 a1_0, .int .u8 a1_1] 70 (0, 0)) (by (with_reducible repeat (first | refine blk_drewN ?_ _ | refine blk_drew ?_ | refine blk_alloc ?_ _)); exact BK102.out) hb); have n2_ := Aside0.mk (blk_below (g := gb103) (o := .cells #[.int .i64 0, .int .i64 0, .string (⟨#[]⟩ : ByteArray)] 35 (0, 0)) (by (with_reducible repeat (first | refine blk_drewN ?_ _ | refine blk_drew ?_ | refine blk_alloc ?_ _)); exact BK103.out) hb); have n3_ := Aside0.mk (below_step (by repeat (first | (with_reducible first | exact HB.out | apply below_alloc | apply pw_below_drewN | apply below_drew1 | refine below_set ?_ GE101.out | refine below_set ?_ GE102.out | refine below_set ?_ GE103.out) | exact HB.out)) hb); clear BK101; clear BK102; clear BK103; clear HB; have BK101 := n0_; have BK102 := n1_; have BK103 := n2_; have HB := n3_; clear n0_ n1_ n2_ n3_; (try clear hb); (try clear hb2); (try clear hk); (try clear hi); have hcz49_0 : w48.cell? ⟨gb103, 0, none⟩ = some (.int .i64 0) := (blk_cell BK103.out 0).trans rfl; have hcz49_1 : w48.cell? ⟨gb103, 1, none⟩ = some (.int .i64 0) := (blk_cell BK103.out 1).trans rfl; have hcz49_2 : w48.cell? ⟨gb103, 2, none⟩ = some (.string (⟨#[]⟩ : ByteArray)) := (blk_cell BK103.out 2).trans rfl; have hfz49_0 := blk_frozen BK103.out 0; have hfz49_1 := blk_frozen BK103.out 1; have hfz49_2 := blk_frozen BK103.out 2))
              refine bodyPost_ret (results_cell_row rfl _ _ gb103 35 #[.int .i64 t114, .int .i64 t115, .string t116] (0, 0) _ rfl (by (with_reducible repeat (first | refine blk_drewN ?_ _ | refine blk_drew ?_ | refine blk_alloc ?_ _)); refine blk_put (cs := #[.int .i64 t114, .int .i64 t115, .string (⟨#[]⟩ : ByteArray)]) ?_ 2 _ rfl; (with_reducible repeat (first | refine blk_drewN ?_ _ | refine blk_drew ?_ | refine blk_alloc ?_ _)); refine blk_put (cs := #[.int .i64 t114, .int .i64 0, .string (⟨#[]⟩ : ByteArray)]) ?_ 1 _ rfl; (with_reducible repeat (first | refine blk_drewN ?_ _ | refine blk_drew ?_ | refine blk_alloc ?_ _)); refine blk_put (cs := #[.int .i64 0, .int .i64 0, .string (⟨#[]⟩ : ByteArray)]) ?_ 0 _ rfl; (with_reducible repeat (first | refine blk_drewN ?_ _ | refine blk_drew ?_ | refine blk_alloc ?_ _)); exact BK103.out) Tryz.underlying35 rfl (by kernel_rfl)) rfl ?_
              exact ⟨by first | rfl | (simp [errW_none, errW_some] <;> rfl) | (simp [*, errW_none, errW_some] <;> rfl), by repeat (first | (with_reducible first | exact HB.out | apply below_alloc | apply pw_below_drewN | apply below_drew1 | refine below_set ?_ GE101.out | refine below_set ?_ GE102.out | refine below_set ?_ GE103.out) | exact HB.out)⟩
          · rw [if_neg c31] at H
            have c31b0 : (a0_0 == 2) = false := beq_eq_false_iff_ne.mpr c31
            have c31b1 : (a0_0 != 2) = true := bne_iff_ne.mpr c31
            replace H := Option.bind_eq_some_iff.mp H
            obtain ⟨t117, A500, H⟩ := H
            replace H : ((chapmanref06_Str.f t117).bind fun bt118 => (some (bt118.1, bt118.2.1, bt118.2.2))) = some (r1, r2, r3) := H
            have A50 := Aside0.mk A500
            clear A500
            replace H := Option.bind_eq_some_iff.mp H
            obtain ⟨⟨t118, t119, t120⟩, A510, H⟩ := H
            replace H : (some (t118, t119, t120)) = some (r1, r2, r3) := H
            have A51 := Aside0.mk A510
            clear A510
            simp only [Option.some.injEq, Prod.mk.injEq] at H
            obtain ⟨rfl, rfl, rfl⟩ := H
            have hnb52 := NB101_102.out
            have hnc52 := NB102_101.out
            have hnb53 := NB101_103.out
            have hnc53 := NB103_101.out
            have hcz54_0 : wc.cell? ⟨gb101, 0, none⟩ = some (.int .i64 a0_0) := (blk_cell BK101.out 0).trans rfl
            have hcz54_1 : wc.cell? ⟨gb101, 1, none⟩ = some (.int .i64 a0_1) := (blk_cell BK101.out 1).trans rfl
            have hcz54_2 : wc.cell? ⟨gb101, 2, none⟩ = some (.bool a0_2) := (blk_cell BK101.out 2).trans rfl
            have hfz54_0 := blk_frozen BK101.out 0
            have hfz54_1 := blk_frozen BK101.out 1
            have hfz54_2 := blk_frozen BK101.out 2
            have hnb55 := NB102_103.out
            have hnc55 := NB103_102.out
            have hcz56_0 : wc.cell? ⟨gb102, 0, none⟩ = some (.int .u8 a1_0) := (blk_cell BK102.out 0).trans rfl
            have hcz56_1 : wc.cell? ⟨gb102, 1, none⟩ = some (.int .u8 a1_1) := (blk_cell BK102.out 1).trans rfl
            have hfz56_0 := blk_frozen BK102.out 0
            have hfz56_1 := blk_frozen BK102.out 1
            go_wp2_with (first | ((with_reducible refine gate_callee (f := 63) rfl ?_); refine goesL_ (some 46) rfl rfl Tryz.func63 (by kernel_rfl) rfl #[.int .i64 (wrap64 (a1_1))] rfl (by (try simp only [List.map_toArray, List.map_cons, List.map_nil]); first | done | rfl | (simp only [List.length_drop, List.length_take]; rfl)) ?_; (with_reducible refine (chapmanref06_words.calls (wrap64 (a1_1)) t117 _ A50.out).mono ?_); rintro e w57 ⟨rfl, hb⟩; refine ⟨_, rfl, ?_⟩; have n0_ := Aside0.mk (blk_below (g := gb101) (o := .cells #[.int .i64 a0_0, .int .i64 a0_1, .bool a0_2] 63 (0, 0)) (by (with_reducible repeat (first | refine blk_drewN ?_ _ | refine blk_drew ?_ | refine blk_alloc ?_ _)); exact BK101.out) hb); have n1_ := Aside0.mk (blk_below (g := gb102) (o := .cells #[.int .u8 a1_0, .int .u8 a1_1] 70 (0, 0)) (by (with_reducible repeat (first | refine blk_drewN ?_ _ | refine blk_drew ?_ | refine blk_alloc ?_ _)); exact BK102.out) hb); have n2_ := Aside0.mk (blk_below (g := gb103) (o := .cells #[.int .i64 0, .int .i64 0, .string (⟨#[]⟩ : ByteArray)] 35 (0, 0)) (by (with_reducible repeat (first | refine blk_drewN ?_ _ | refine blk_drew ?_ | refine blk_alloc ?_ _)); exact BK103.out) hb); have n3_ := Aside0.mk (below_step (by repeat (first | (with_reducible first | exact HB.out | apply below_alloc | apply pw_below_drewN | apply below_drew1 | refine below_set ?_ GE101.out | refine below_set ?_ GE102.out | refine below_set ?_ GE103.out) | exact HB.out)) hb); clear BK101; clear BK102; clear BK103; clear HB; have BK101 := n0_; have BK102 := n1_; have BK103 := n2_; have HB := n3_; clear n0_ n1_ n2_ n3_; (try clear hb); (try clear hb2); (try clear hk); (try clear hi)) | ((with_reducible refine gate_callee (f := 38) rfl ?_); refine goesL_ (some 47) rfl rfl Tryz.func38 (by kernel_rfl) rfl #[.string t117] rfl (by (try simp only [List.map_toArray, List.map_cons, List.map_nil]); first | done | rfl | (simp only [List.length_drop, List.length_take]; rfl)) ?_; (with_reducible refine (chapmanref06_Str.calls t117 t118 t119 t120 _ A51.out).mono ?_); rintro e w58 ⟨rfl, hb⟩; refine ⟨_, rfl, ?_⟩; have n0_ := Aside0.mk (blk_below (g := gb101) (o := .cells #[.int .i64 a0_0, .int .i64 a0_1, .bool a0_2] 63 (0, 0)) (by (with_reducible repeat (first | refine blk_drewN ?_ _ | refine blk_drew ?_ | refine blk_alloc ?_ _)); exact BK101.out) hb); have n1_ := Aside0.mk (blk_below (g := gb102) (o := .cells #[.int .u8 a1_0, .int .u8 a1_1] 70 (0, 0)) (by (with_reducible repeat (first | refine blk_drewN ?_ _ | refine blk_drew ?_ | refine blk_alloc ?_ _)); exact BK102.out) hb); have n2_ := Aside0.mk (blk_below (g := gb103) (o := .cells #[.int .i64 0, .int .i64 0, .string (⟨#[]⟩ : ByteArray)] 35 (0, 0)) (by (with_reducible repeat (first | refine blk_drewN ?_ _ | refine blk_drew ?_ | refine blk_alloc ?_ _)); exact BK103.out) hb); have n3_ := Aside0.mk (below_step (by repeat (first | (with_reducible first | exact HB.out | apply below_alloc | apply pw_below_drewN | apply below_drew1 | refine below_set ?_ GE101.out | refine below_set ?_ GE102.out | refine below_set ?_ GE103.out) | exact HB.out)) hb); clear BK101; clear BK102; clear BK103; clear HB; have BK101 := n0_; have BK102 := n1_; have BK103 := n2_; have HB := n3_; clear n0_ n1_ n2_ n3_; (try clear hb); (try clear hb2); (try clear hk); (try clear hi); have hcz59_0 : w58.cell? ⟨gb103, 0, none⟩ = some (.int .i64 0) := (blk_cell BK103.out 0).trans rfl; have hcz59_1 : w58.cell? ⟨gb103, 1, none⟩ = some (.int .i64 0) := (blk_cell BK103.out 1).trans rfl; have hcz59_2 : w58.cell? ⟨gb103, 2, none⟩ = some (.string (⟨#[]⟩ : ByteArray)) := (blk_cell BK103.out 2).trans rfl; have hfz59_0 := blk_frozen BK103.out 0; have hfz59_1 := blk_frozen BK103.out 1; have hfz59_2 := blk_frozen BK103.out 2))
            refine bodyPost_ret (results_cell_row rfl _ _ gb103 35 #[.int .i64 t118, .int .i64 t119, .string t120] (0, 0) _ rfl (by (with_reducible repeat (first | refine blk_drewN ?_ _ | refine blk_drew ?_ | refine blk_alloc ?_ _)); refine blk_put (cs := #[.int .i64 t118, .int .i64 t119, .string (⟨#[]⟩ : ByteArray)]) ?_ 2 _ rfl; (with_reducible repeat (first | refine blk_drewN ?_ _ | refine blk_drew ?_ | refine blk_alloc ?_ _)); refine blk_put (cs := #[.int .i64 t118, .int .i64 0, .string (⟨#[]⟩ : ByteArray)]) ?_ 1 _ rfl; (with_reducible repeat (first | refine blk_drewN ?_ _ | refine blk_drew ?_ | refine blk_alloc ?_ _)); refine blk_put (cs := #[.int .i64 0, .int .i64 0, .string (⟨#[]⟩ : ByteArray)]) ?_ 0 _ rfl; (with_reducible repeat (first | refine blk_drewN ?_ _ | refine blk_drew ?_ | refine blk_alloc ?_ _)); exact BK103.out) Tryz.underlying35 rfl (by kernel_rfl)) rfl ?_
            exact ⟨by first | rfl | (simp [errW_none, errW_some] <;> rfl) | (simp [*, errW_none, errW_some] <;> rfl), by repeat (first | (with_reducible first | exact HB.out | apply below_alloc | apply pw_below_drewN | apply below_drew1 | refine below_set ?_ GE101.out | refine below_set ?_ GE102.out | refine below_set ?_ GE103.out) | exact HB.out)⟩
end Go.Proofs.YteflfnjljjianaaGreatDoor.Qx
namespace Go.Proofs.YteflfnjljjianaaGreatDoor.Qx
open Go.RowKit Go.Proofs.YteflfnjljjianaaGreatDoorW.PrintWords Go.Proofs.YteflfnjljjianaaGreatDoorW.PrintLast Go.Proofs.YteflfnjljjianaaGreatDoorW.PrintMore
attribute [local go_sem] max2_int min2_int max_two min_two
set_option linter.unusedVariables false
set_option linter.unusedSimpArgs false
def chapmanref11_Byte.f (l0_0 : List Int) (a0_1 : Int) : Option (Int) := if a0_1 < (l0_0.length : Int) then (if 0 ≤ a0_1 then (some (wrap64 (rd l0_0 a0_1))) else (none)) else (some 0)
set_option maxHeartbeats 8000000 in
set_option maxRecDepth 100000 in
theorem chapmanref11_Byte.calls (A0_0 : Option Addr) (c0_0 : Nat) (l0_0 : List Int) (a0_1 : Int) (r : Int) (w : World) (hr0_0 : Kd.C (Kd.int .u8) w A0_0 l0_0.length l0_0) (hc0_0 : l0_0.length ≤ c0_0) (h : chapmanref11_Byte.f l0_0 a0_1 = some r) :
    Calls Tryz.prog 64 #[.agg #[.slice A0_0 l0_0.length c0_0, .int .i64 a0_1]] w fun e w' => e = .returned (.int .i64 r) ∧ Below w.heap.size w w' := by
  have hu87 := Tryz.underlying87
  have HR0_0 := Aside0.mk hr0_0
  have HC0_0 := Aside0.mk hc0_0
  clear hr0_0 hc0_0
  have HB := Aside0.mk (Below.refl w.heap.size w)
  have H : (if a0_1 < (l0_0.length : Int) then (if 0 ≤ a0_1 then (some (wrap64 (rd l0_0 a0_1))) else (none)) else (some 0)) = some r := h
  clear h
  by_cases c2 : a0_1 < (l0_0.length : Int)
  · rw [if_pos c2] at H
    have c2b0 : decide (a0_1 < (l0_0.length : Int)) = true := decide_eq_true c2
    clear c2
    by_cases c3 : 0 ≤ a0_1
    · rw [if_pos c3] at H
      have c3b0 : decide (0 ≤ a0_1) = true := decide_eq_true c3
      clear c3
      obtain rfl := Option.some.inj H
      go_enter Tryz.func64, Tryz.ntmps64
      go_wp2_with (first | ((with_reducible refine gate_dst (N := 1) rfl ?_); refine box_event ?hg (N := 1) ?hd (cs := #[.slice A0_0 l0_0.length c0_0, .int .i64 a0_1]) (t := 87) ?hr ?_; (case hd => rfl); (case hg => rfl); (case hr => first | (go_simp; done) | (go_simp; rfl)); intro gb101 hg w4 hbox hb; have n0_ := Aside0.mk (below_step (by repeat (first | (with_reducible first | exact HB.out | apply below_alloc | apply pw_below_drewN | apply below_drew1) | exact HB.out)) hb); have n1_ := Aside0.mk (hbox); have n2_ := Aside0.mk ((by rw [hg]; exact (below_size (by repeat (first | (with_reducible first | exact HB.out | apply below_alloc | apply pw_below_drewN | apply below_drew1) | exact HB.out))) : w.heap.size ≤ gb101)); have n3_ := Aside0.mk ((by rw [hg]; exact (below_size (by repeat (first | (with_reducible first | exact HB.out | apply below_alloc | apply pw_below_drewN | apply below_drew1) | exact HB.out))) : w.heap.size ≤ gb101)); clear HB; have HB := n0_; have BK101 := n1_; have GW101 := n2_; have GE101 := n3_; clear n0_ n1_ n2_ n3_; clear hb hbox hg; have hcz5_0 : w4.cell? ⟨gb101, 0, none⟩ = some (.slice A0_0 l0_0.length c0_0) := (blk_cell BK101.out 0).trans rfl; have hcz5_1 : w4.cell? ⟨gb101, 1, none⟩ = some (.int .i64 a0_1) := (blk_cell BK101.out 1).trans rfl; have hfz5_0 := blk_frozen BK101.out 0; have hfz5_1 := blk_frozen BK101.out 1; have p102 : 0 ≤ (a0_1 : Int) := of_decide_eq_true (by first | (with_reducible assumption) | assumption); have q102 : a0_1 < (l0_0.length : Int) := of_decide_eq_true (by first | (with_reducible assumption) | assumption); obtain ⟨ad102, e102, hx102_0⟩ := Kd.at_int HR0_0.out a0_1 p102 q102; cases e102; replace hx102_0 := (HB.out.cell (World.block_lt_of_cell? w _ hx102_0)).trans hx102_0; replace p102 := eq_true p102; replace q102 := eq_true q102))
      go_ret
      exact ⟨by first | rfl | (simp [errW_none, errW_some] <;> rfl) | (simp [*, errW_none, errW_some] <;> rfl), by repeat (first | (with_reducible first | exact HB.out | apply below_alloc | apply pw_below_drewN | apply below_drew1 | refine below_set ?_ GE101.out) | exact HB.out)⟩
    · rw [if_neg c3] at H
      exact absurd H (by simp)
  · rw [if_neg c2] at H
    have c2b0 : decide (a0_1 < (l0_0.length : Int)) = false := decide_eq_false c2
    clear c2
    obtain rfl := Option.some.inj H
    go_enter Tryz.func64, Tryz.ntmps64
    go_wp2_with (first | ((with_reducible refine gate_dst (N := 1) rfl ?_); refine box_event ?hg (N := 1) ?hd (cs := #[.slice A0_0 l0_0.length c0_0, .int .i64 a0_1]) (t := 87) ?hr ?_; (case hd => rfl); (case hg => rfl); (case hr => first | (go_simp; done) | (go_simp; rfl)); intro gb101 hg w6 hbox hb; have n0_ := Aside0.mk (below_step (by repeat (first | (with_reducible first | exact HB.out | apply below_alloc | apply pw_below_drewN | apply below_drew1) | exact HB.out)) hb); have n1_ := Aside0.mk (hbox); have n2_ := Aside0.mk ((by rw [hg]; exact (below_size (by repeat (first | (with_reducible first | exact HB.out | apply below_alloc | apply pw_below_drewN | apply below_drew1) | exact HB.out))) : w.heap.size ≤ gb101)); have n3_ := Aside0.mk ((by rw [hg]; exact (below_size (by repeat (first | (with_reducible first | exact HB.out | apply below_alloc | apply pw_below_drewN | apply below_drew1) | exact HB.out))) : w.heap.size ≤ gb101)); clear HB; have HB := n0_; have BK101 := n1_; have GW101 := n2_; have GE101 := n3_; clear n0_ n1_ n2_ n3_; clear hb hbox hg; have hcz7_0 : w6.cell? ⟨gb101, 0, none⟩ = some (.slice A0_0 l0_0.length c0_0) := (blk_cell BK101.out 0).trans rfl; have hcz7_1 : w6.cell? ⟨gb101, 1, none⟩ = some (.int .i64 a0_1) := (blk_cell BK101.out 1).trans rfl; have hfz7_0 := blk_frozen BK101.out 0; have hfz7_1 := blk_frozen BK101.out 1))
    go_ret
    exact ⟨by first | rfl | (simp [errW_none, errW_some] <;> rfl) | (simp [*, errW_none, errW_some] <;> rfl), by repeat (first | (with_reducible first | exact HB.out | apply below_alloc | apply pw_below_drewN | apply below_drew1 | refine below_set ?_ GE101.out) | exact HB.out)⟩
end Go.Proofs.YteflfnjljjianaaGreatDoor.Qx
namespace Go.Proofs.YteflfnjljjianaaGreatDoor.Qx
open Go.RowKit Go.Proofs.YteflfnjljjianaaGreatDoorW.PrintWords Go.Proofs.YteflfnjljjianaaGreatDoorW.PrintLast Go.Proofs.YteflfnjljjianaaGreatDoorW.PrintMore
attribute [local go_sem] max2_int min2_int max_two min_two
set_option linter.unusedVariables false
set_option linter.unusedSimpArgs false
theorem own_below {V X : World} {base : Nat} {e : TypeId} {size : Nat} {v : Value} {n : Nat} {xs : List Value} (h : V.ownsRow base e size v n xs) (hb : Below V.heap.size V X) : X.ownsRow base e size v n xs := by
  refine h.kept (row := none) ⟨hb.os, hb.tape, hb.output, hb.size, fun k hk _ => hb.block k hk⟩ ?_
  cases v.ownBlock <;> simp
def rowByte (l : List Int) (i : Nat) : Int := l.getD i 0
theorem rowByte_range {l : List Int} (h : ∀ x ∈ l, 0 ≤ x ∧ x < 256) (i : Nat) : 0 ≤ rowByte l i ∧ rowByte l i < 256 := by
  unfold rowByte
  rw [List.getD_eq_getElem?_getD]
  rcases hi : l[i]? with _ | x
  · simp
  · exact h x (List.mem_of_getElem? hi)
theorem byte_f {l : List Int} (h : ∀ x ∈ l, 0 ≤ x ∧ x < 256) (i : Nat) (hi : i < 1000000) : chapmanref11_Byte.f l (i : Int) = some (rowByte l i) := by
  unfold chapmanref11_Byte.f
  have := rowByte_range h i
  split
  · rename_i h1
    rw [if_pos (by omega)]
    unfold rowByte at *
    simp [rd]
    rw [List.getD_eq_getElem?_getD] at this
    unfold wrap64
    omega
  · rename_i h1
    unfold rowByte
    rw [List.getD_eq_getElem?_getD, List.getElem?_eq_none (by omega)]
    rfl
set_option maxRecDepth 100000 in
set_option maxHeartbeats 4000000 in
theorem chapmanref11_On.own (A0 : Option Addr) (c0 n : Nat) (a d : Int) (w : World) (ha : 0 ≤ a ∧ a < 4611686018427387904) (hd : 0 ≤ d ∧ d < 4611686018427387904) :
    Calls Tryz.prog 65 #[.agg #[.slice A0 n c0, .int .i64 a], .int .i64 d] w fun e w' => e = .returned (.agg #[.slice A0 n c0, .int .i64 (a + d)]) ∧ Below w.heap.size w w' := by
  have hu87 := Tryz.underlying87
  go_enter Tryz.func65, Tryz.ntmps65
  go_wp2
  refine bodyPost_ret (v := .agg #[.slice A0 n c0, .int .i64 (a + d)]) (by simp [results, Tryz.results65, go_sem, *]) rfl ⟨rfl, ?_⟩
  repeat (with_reducible first | refine Below.drew ?_ | refine below_alloc ?_ _ | refine below_set ?_ (by first | exact Nat.le_refl _ | exact Nat.le_add_right _ _))
  exact Below.refl _ _
theorem row_cell_lt {w : World} {a : Addr} {v : Value} (h : w.cell? a = some v) : a.block < w.heap.size := by
  by_cases hlt : a.block < w.heap.size
  · exact hlt
  · have hn : w.heap[a.block]? = none := Array.getElem?_eq_none (by omega)
    simp [World.cell?, hn] at h
def c35' (x : S35) : List Value := [.int .i64 x.f0, .int .i64 x.f1, .string x.f2]
theorem info35' : (Tryz.prog.info? 35).map (fun i => (i.zero, i.size, i.bytes)) = some (some (.agg #[.int .i64 0, .int .i64 0, .string ⟨#[]⟩]), 3, 32) := by kernel_rfl
def RowOf (k : Nat) (T : List S63) (l : List Int) (vs : List S35) : Prop :=
  vs.length = T.length ∧ ∀ i, i < T.length → chapmanref06_Value.f k (rd_T63 T i).f0 (rd_T63 T i).f1 (rd_T63 T i).f2 (rowByte l (2 * i)) (rowByte l (2 * i + 1)) = some ((rd_T35 vs i).f0, (rd_T35 vs i).f1, (rd_T35 vs i).f2)
set_option maxRecDepth 100000 in
set_option maxHeartbeats 4000000 in
theorem chapmanref11_Row.calls (k : Nat) (AT : Option Addr) (cT : Nat) (T : List S63) (A0 : Option Addr) (c0 : Nat) (l : List Int) (vs : List S35) (w : World) (hT : Kd.C k63 w AT T.length T) (hTl : T.length ≤ 100000) (hr : Kd.C (Kd.int .u8) w A0 l.length l) (hc : l.length ≤ c0) (hb : ∀ x ∈ l, 0 ≤ x ∧ x < 256) (hv : RowOf k T l vs) :
    Calls Tryz.prog 32 #[.slice AT T.length cT, .slice A0 l.length c0] w fun e w' => ∃ v, e = .returned v ∧ w'.ownsRow w.heap.size 35 3 v vs.length (vs.flatMap c35') ∧ Below w.heap.size w w' := by
  have hu25 := Tryz.underlying25
  have hu28 := Tryz.underlying28
  have hu63 := Tryz.underlying63
  have hu70 := Tryz.underlying70
  have hu87 := Tryz.underlying87
  have hu35 := Tryz.underlying35
  obtain ⟨i0, hi, hz0, hz1, hz2⟩ := info_parts info35'
  obtain ⟨hvl, hvv⟩ := hv
  have HT := Lib.hid hT
  have HR := Lib.hid hr
  have HBy := Lib.hid hb
  have HV := Lib.hid hvv
  clear hT hr hb hvv
  go_enter Tryz.func32, Tryz.ntmps32
  go_wp2
  go_loopw [5, 6, 7] (fun s5 s6 s7 wr => ∃ (j : Nat), s6 = .int .i64 j ∧ j ≤ T.length ∧ wr.ownsRow w.heap.size 35 3 s5 j ((vs.take j).flatMap c35') ∧ Below w.heap.size w wr) (fun _ s6 _ _ => T.length - (intOf s6).toNat)
  case atStart => exact ⟨0, rfl, Nat.zero_le _, ⟨rfl, Or.inr ⟨w.heap.size, 0, #[], rfl, Nat.le_refl _, heap_alloc_new w _, Nat.le_refl _, Nat.zero_le _, rfl, rfl⟩⟩, (Below.refl w.heap.size w).alloc (Nat.le_refl _) _⟩
  case round =>
    obtain ⟨j, rfl, hj, hown, hB⟩ := hrel
    by_cases hlt : j < T.length
    · have hd : decide ((j : Int) < (T.length : Int)) = true := decide_eq_true (by omega)
      have hval := HV.out j hlt
      generalize hty : rd_T63 T (j : Int) = ty at *
      have hB0 := rowByte_range HBy.out (2 * j)
      have hB1 := rowByte_range HBy.out (2 * j + 1)
      have hf0 := byte_f HBy.out (2 * j) (by omega)
      have hf1 := byte_f HBy.out (2 * j + 1) (by omega)
      generalize rowByte l (2 * j) = b0 at *
      generalize rowByte l (2 * j + 1) = b1 at *
      have hvr : vs[j]? = some (rd_T35 vs j) := by
        rw [rd_T35, Int.toNat_natCast, List.getD_eq_getElem?_getD, List.getElem?_eq_getElem (by omega)]; rfl
      generalize rd_T35 vs (j : Int) = x at *
      have hw0 : IntKind.u8.wrap b0 = b0 := by rw [IntKind.wrap_u8]; omega
      have hw1 : IntKind.u8.wrap b1 = b1 := by rw [IntKind.wrap_u8]; omega
      have e2j : (2 : Int) * (j : Int) = ((2 * j : Nat) : Int) := by omega
      have hm2 : ((2 * j : Nat) : Int) = 2 * (j : Int) := by omega
      have HVAL := Lib.hid hval
      have HF0 := Lib.hid (hm2 ▸ hf0)
      have HF1 := Lib.hid (show chapmanref11_Byte.f l (2 * (j : Int) + 1) = some b1 by rw [← hf1]; congr 1)
      clear hval hf0 hf1 e2j hm2
      go_wp2
      have C0 := heap_alloc_new wr (.cells #[.slice A0 l.length c0, .int .i64 (2 * (j : Int))] 87)
      have hBV := below_alloc hB (.cells #[.slice A0 l.length c0, .int .i64 (2 * (j : Int))] 87)
      have hownV := hown.alloc (.cells #[.slice A0 l.length c0, .int .i64 (2 * (j : Int))] 87)
      have hsV : wr.heap.size < (wr.alloc (.cells #[.slice A0 l.length c0, .int .i64 (2 * (j : Int))] 87)).heap.size := by simp
      generalize (wr.alloc (.cells #[.slice A0 l.length c0, .int .i64 (2 * (j : Int))] 87)) = V at *
      obtain ⟨ad, e0, t0, t1, t2⟩ := at_T63 HT.out (j : Int) (by omega) (by omega)
      rw [hty] at t0 t1 t2
      simp only [Int.toNat_natCast] at t0 t1 t2
      subst e0
      have hlw : (ad.add (j * 3)).block < w.heap.size := row_cell_lt t0
      have hlo : (ad.add (j * 3)).block < V.heap.size := Nat.lt_of_lt_of_le hlw hBV.size
      replace t0 := (hBV.cell hlw).trans t0
      replace t1 := (hBV.cell (p := ⟨(ad.add (j * 3)).block, (ad.add (j * 3)).off + 1, none⟩) hlw).trans t1
      replace t2 := (hBV.cell (p := ⟨(ad.add (j * 3)).block, (ad.add (j * 3)).off + 2, none⟩) hlw).trans t2
      have hne1 : some wr.heap.size ≠ Value.ownBlock u5 := fun e => by have := (hown.lt _ e.symm).2; omega
      have hne2 : some (ad.add (j * 3)).block ≠ Value.ownBlock u5 := fun e => by have := (hown.lt _ e.symm).1; omega
      have C0a : V.cell? ⟨wr.heap.size, 0, none⟩ = some (.slice A0 l.length c0) := (blk_cell C0 0).trans rfl
      have C0b : V.cell? ⟨wr.heap.size, 1, none⟩ = some (.int .i64 (2 * (j : Int))) := (blk_cell C0 1).trans rfl
      have KS := Lib.hid (fun (X : World) (hX : Below V.heap.size V X) => show X.cell? ⟨wr.heap.size, 0, none⟩ = some (.slice A0 l.length c0) ∧ X.cell? ⟨wr.heap.size, 1, none⟩ = some (.int .i64 (2 * (j : Int))) ∧ X.cell? (ad.add (j * 3)) = some (.int .i64 ty.f0) ∧ X.cell? ⟨(ad.add (j * 3)).block, (ad.add (j * 3)).off + 1, none⟩ = some (.int .i64 ty.f1) ∧ X.cell? ⟨(ad.add (j * 3)).block, (ad.add (j * 3)).off + 2, none⟩ = some (.bool ty.f2) from
        ⟨(hX.cell hsV).trans C0a, (hX.cell hsV).trans C0b, (hX.cell hlo).trans t0, (hX.cell (p := ⟨(ad.add (j * 3)).block, (ad.add (j * 3)).off + 1, none⟩) hlo).trans t1, (hX.cell (p := ⟨(ad.add (j * 3)).block, (ad.add (j * 3)).off + 2, none⟩) hlo).trans t2⟩)
      have KG := Lib.hid (fun (X Y : World) (hX : Below V.heap.size V X) (hg : X.grownBy Y (Value.ownBlock u5)) => show Y.cell? ⟨wr.heap.size, 0, none⟩ = some (.slice A0 l.length c0) ∧ Y.cell? ⟨wr.heap.size, 1, none⟩ = some (.int .i64 (2 * (j : Int))) ∧ Y.cell? (ad.add (j * 3)) = some (.int .i64 ty.f0) ∧ Y.cell? ⟨(ad.add (j * 3)).block, (ad.add (j * 3)).off + 1, none⟩ = some (.int .i64 ty.f1) ∧ Y.cell? ⟨(ad.add (j * 3)).block, (ad.add (j * 3)).off + 2, none⟩ = some (.bool ty.f2) from
        have s1 := Nat.lt_of_lt_of_le hsV hX.size
        have s2 := Nat.lt_of_lt_of_le hlo hX.size
        ⟨(hg.cell_far ⟨wr.heap.size, 0, none⟩ s1 hne1).trans (KS.out X hX).1, (hg.cell_far ⟨wr.heap.size, 1, none⟩ s1 hne1).trans (KS.out X hX).2.1, (hg.cell_far (ad.add (j * 3)) s2 hne2).trans (KS.out X hX).2.2.1, (hg.cell_far ⟨(ad.add (j * 3)).block, (ad.add (j * 3)).off + 1, none⟩ s2 hne2).trans (KS.out X hX).2.2.2.1, (hg.cell_far ⟨(ad.add (j * 3)).block, (ad.add (j * 3)).off + 2, none⟩ s2 hne2).trans (KS.out X hX).2.2.2.2⟩)
      have HX := Lib.hid (Below.refl V.heap.size V)
      have HRV := Lib.hid (Kd.C_below HR.out hBV)
      have HOWN := Lib.hid hownV
      have HBV := Lib.hid hBV
      clear hB hBV hownV hown C0 C0a C0b t0 t1 t2 HR HT
      go_region_held3 (fun w' => w'.cell? ⟨wr.heap.size, 0, none⟩ = some (.slice A0 l.length c0) ∧ w'.cell? ⟨wr.heap.size, 1, none⟩ = some (.int .i64 (2 * (j : Int))) ∧ w'.cell? (ad.add (j * 3)) = some (.int .i64 ty.f0) ∧ w'.cell? ⟨(ad.add (j * 3)).block, (ad.add (j * 3)).off + 1, none⟩ = some (.int .i64 ty.f1) ∧ w'.cell? ⟨(ad.add (j * 3)).block, (ad.add (j * 3)).off + 2, none⟩ = some (.bool ty.f2))
        (first | (refine KS.out _ ?_; (repeat (with_reducible first | exact HX.out | refine below_alloc ?_ _ | refine below_drew1 ?_ | refine pw_below_drewN ?_ _)); done) | exact KG.out _ _ (show Below V.heap.size V _ from (by repeat (with_reducible first | exact HX.out | refine below_alloc ?_ _ | refine below_drew1 ?_ | refine pw_below_drewN ?_ _))) hgrow) (first
        | (go_at_call 64
           with_reducible refine (chapmanref11_Byte.calls A0 c0 l (2 * (j : Int) + 1) b1 _ (Kd.C_below HRV.out (by repeat (with_reducible first | exact HX.out | refine below_alloc ?_ _ | refine below_drew1 ?_ | refine pw_below_drewN ?_ _))) hc HF1.out).mono ?_
           rintro e w5 ⟨rfl, hb5⟩
           replace HX : RowKit.Hid (Below V.heap.size V w5) := Lib.hid (below_step (by repeat (with_reducible first | exact HX.out | refine below_alloc ?_ _ | refine below_drew1 ?_ | refine pw_below_drewN ?_ _)) hb5)
           clear hb5)
        | (go_at_call 64
           with_reducible refine (chapmanref11_Byte.calls A0 c0 l (2 * (j : Int)) b0 _ (Kd.C_below HRV.out (by repeat (with_reducible first | exact HX.out | refine below_alloc ?_ _ | refine below_drew1 ?_ | refine pw_below_drewN ?_ _))) hc HF0.out).mono ?_
           rintro e w5 ⟨rfl, hb5⟩
           replace HX : RowKit.Hid (Below V.heap.size V w5) := Lib.hid (below_step (by repeat (with_reducible first | exact HX.out | refine below_alloc ?_ _ | refine below_drew1 ?_ | refine pw_below_drewN ?_ _)) hb5)
           clear hb5)
        | (go_at_call 65
           with_reducible refine (chapmanref11_On.own A0 c0 l.length (2 * (j : Int)) 1 _ (by omega) (by omega)).mono ?_
           rintro e w5 ⟨rfl, hb5⟩
           replace HX : RowKit.Hid (Below V.heap.size V w5) := Lib.hid (below_step (by repeat (with_reducible first | exact HX.out | refine below_alloc ?_ _ | refine below_drew1 ?_ | refine pw_below_drewN ?_ _)) hb5)
           clear hb5)
        | (go_at_call 31
           with_reducible refine (chapmanref06_Value.calls k ty.f0 ty.f1 ty.f2 b0 b1 x.f0 x.f1 x.f2 _ HVAL.out).mono ?_
           rintro e w5 ⟨rfl, hb5⟩
           replace HX : RowKit.Hid (Below V.heap.size V w5) := Lib.hid (below_step (by repeat (with_reducible first | exact HX.out | refine below_alloc ?_ _ | refine below_drew1 ?_ | refine pw_below_drewN ?_ _)) hb5)
           clear hb5)
        | (refine step_append_lies _ (by rfl) _ _ _ (by rfl) w.heap.size 35 i0 (.agg #[.int .i64 0, .int .i64 0, .string ⟨#[]⟩]) 3 32 hu28 hi hz0 hz1 hz2 rfl (by decide) _ j ((vs.take j).flatMap c35') (by rfl) (own_below HOWN.out (show Below V.heap.size V _ from (by repeat (with_reducible first | exact HX.out | refine below_alloc ?_ _ | refine below_drew1 ?_ | refine pw_below_drewN ?_ _)))) _ 1 1 (c35' x) (by rfl) (by rfl) (World.news_of_block (cs := #[.int .i64 x.f0, .int .i64 x.f1, .string x.f2]) (t := 35) (fr := (0, 0)) (by first | exact heap_alloc_new _ _ | exact blk_drew (heap_alloc_new _ _))) (by simp [c35', Value.oneCell']) (by decide) (by unfold maxLen; omega) (by omega) (Nat.le_trans HBV.out.size (Below.size (show Below V.heap.size V _ from (by repeat (with_reducible first | exact HX.out | refine below_alloc ?_ _ | refine below_drew1 ?_ | refine pw_below_drewN ?_ _))))) _ rfl ?_
           intro g1 cap1 w6 hown' hgrow hat hlt))
      have hBX := below_alloc (below_then HBV.out HBV.out.size HX.out) (.cells #[.int .i64 x.f0, .int .i64 x.f1, .string x.f2] 35)
      have hB6 := hBX.grown hgrow hBX.size (fun g h => (HOWN.out.lt g h).1)
      clear HX HBV HOWN KS KG HRV hgrow hat HVAL HF0 HF1
      go_wp2
      refine ⟨⟨j + 1, by simp, by omega, ?_, hB6⟩, by simp [intOf]; omega⟩
      rw [List.take_add_one, hvr, List.flatMap_append]
      simpa using hown'
    · have hd : decide ((j : Int) < (T.length : Int)) = false := decide_eq_false (by omega)
      go_wp2
      obtain rfl : j = T.length := by omega
      refine bodyPost_ret (v := u5) (by simp [results, Tryz.results32, go_sem, *]) rfl ⟨u5, rfl, ?_, hB⟩
      rw [hvl]
      rw [List.take_of_length_le (by omega)] at hown
      exact hown
theorem flat35' : ∀ (ss : List S35) (j i : Nat) (p : S35) (u : Value), ss[j]? = some p → (c35' p)[i]? = some u → (ss.flatMap c35')[j * 3 + i]? = some u
  | [], j, i, p, u, h, _ => by simp at h
  | q :: ss, 0, i, p, u, h, h2 => by
    obtain rfl : q = p := by simpa using h
    rw [List.flatMap_cons, List.getElem?_append_left (by have := (List.getElem?_eq_some_iff.1 h2).1; simpa using this)]
    simpa using h2
  | q :: ss, j + 1, i, p, u, h, h2 => by
    have := flat35' ss j i p u (by simpa using h) h2
    rw [List.flatMap_cons, List.getElem?_append_right (by simp [c35']; omega), ← this]
    congr 1
    simp [c35']
    omega
theorem row_reads {w : World} {B : Nat} {v : Value} {ss : List S35} (h : w.ownsRow B 35 3 v ss.length (ss.flatMap c35')) : ∃ A c, v = .slice A ss.length c ∧ ss.length ≤ c ∧ Kd.C k35 w A ss.length ss := by
  rcases h.2 with ⟨rfl, h0⟩ | ⟨g, cap, cur, rfl, hg, hgb, hcap, hmax, _, _⟩
  · obtain rfl : ss = [] := List.eq_nil_of_length_eq_zero h0
    exact ⟨none, 0, rfl, Nat.le_refl _, Kd.C_nil _ _⟩
  · refine ⟨some ⟨g, 0, none⟩, cap, rfl, hcap, rfl, by unfold maxLen at hmax; omega, fun _ => ⟨_, rfl, fun j p hp => ⟨_, rfl, k35_mk w p, fun i u hu => ?_⟩⟩⟩
    have hlt : i < 3 := (List.getElem?_eq_some_iff.1 hu).1
    exact h.cells (g := g) rfl (j * 3 + i) u (flat35' ss j i p u hp hu)
end Go.Proofs.YteflfnjljjianaaGreatDoor.Qx
namespace Go.Proofs.YteflfnjljjianaaGreatDoor.Qx
open Go.RowKit Go.Proofs.YteflfnjljjianaaGreatDoorW.PrintWords Go.Proofs.YteflfnjljjianaaGreatDoorW.PrintLast Go.Proofs.YteflfnjljjianaaGreatDoorW.PrintMore
attribute [local go_sem] max2_int min2_int max_two min_two
set_option linter.unusedVariables false
set_option linter.unusedSimpArgs false
theorem at_LL {α : Type} {e : Nat} {d : Kd α} {w : World} {A : Option Addr} {n : Nat} {xs : List (List α)} (h : Kd.C (Kd.slice e d) w A n xs) (i : Int) (h0 : 0 ≤ i) (h1 : i < n) : ∃ ad A0 c0, A = some ad ∧ w.cell? (ad.add i.toNat) = some (.slice A0 (xs.getD i.toNat []).length c0) ∧ (xs.getD i.toNat []).length ≤ c0 ∧ d.C w A0 (xs.getD i.toNat []).length (xs.getD i.toNat []) := by
  obtain ⟨ad, c, e, _, hK, hc0⟩ := Kd.C_get h ([] : List α) i h0 h1
  obtain ⟨A0, c0, rfl, hl, hC⟩ := hK
  exact ⟨ad, A0, c0, e, by simpa [Kd.slice] using hc0 0 _ rfl, hl, hC⟩
theorem info28r : (Tryz.prog.info? 28).map (fun i => (i.zero, i.size, i.bytes)) = some (some (.slice none 0 0), 1, 24) := by kernel_rfl
theorem own_lower {w : World} {b b' : Nat} {e : TypeId} {size n : Nat} {v : Value} {xs : List Value} (h : w.ownsRow b e size v n xs) (hb : b' ≤ b) : w.ownsRow b' e size v n xs := by
  obtain ⟨h1, h2⟩ := h
  refine ⟨h1, ?_⟩
  rcases h2 with h2 | ⟨g, cap, cur, rfl, hg, r⟩
  · exact .inl h2
  · exact .inr ⟨g, cap, cur, rfl, Nat.le_trans hb hg, r⟩
structure RowsIn (B : Nat) (L : List (List S35)) (j : Nat) (s : Value) (vs : List Value) (X : World) : Prop where
  own : X.ownsRow B 28 1 s j vs
  row : ∀ q, q < j → ∃ v, vs[q]? = some v ∧ X.ownsRow B 35 3 v (L.getD q []).length ((L.getD q []).flatMap c35') ∧ ∀ g, v.ownBlock = some g → s.ownBlock ≠ some g
theorem RowsIn.below {B : Nat} {L : List (List S35)} {j : Nat} {s : Value} {vs : List Value} {X Y : World} (h : RowsIn B L j s vs X) (hb : Below X.heap.size X Y) : RowsIn B L j s vs Y :=
  ⟨own_below h.own hb, fun q hq => by
    obtain ⟨v, h1, h2, h3⟩ := h.row q hq
    exact ⟨v, h1, own_below h2 hb, h3⟩⟩
theorem RowsIn.reads {B : Nat} {L : List (List S35)} {s : Value} {vs : List Value} {X : World} (h : RowsIn B L L.length s vs X) (hl : L.length ≤ 1000000) : ∃ A c, s = .slice A L.length c ∧ L.length ≤ c ∧ Kd.C (Kd.slice 35 k35) X A L.length L := by
  have hcells := fun g hg => h.own.cells (g := g) hg
  rcases h.own.2 with ⟨rfl, h0⟩ | ⟨g, cap, cur, rfl, hg, hgb, hcap, _, _, _⟩
  · obtain rfl : L = [] := List.eq_nil_of_length_eq_zero h0
    exact ⟨none, 0, rfl, Nat.le_refl _, Kd.C_nil _ _⟩
  · refine ⟨some ⟨g, 0, none⟩, cap, rfl, hcap, rfl, by omega, fun _ => ⟨_, rfl, fun j p hp => ?_⟩⟩
    have hj := (List.getElem?_eq_some_iff.1 hp).1
    obtain ⟨v, hvj, ho, _⟩ := h.row j hj
    rw [List.getD_eq_getElem?_getD, hp, Option.getD_some] at ho
    obtain ⟨A, c, rfl, hc, hC⟩ := row_reads ho
    refine ⟨[.slice A p.length c], rfl, ⟨A, c, rfl, hc, hC⟩, fun i u hu => ?_⟩
    match i, hu with
    | 0, hu =>
      obtain rfl := Option.some.inj hu
      have h1 := hcells g rfl j _ hvj
      simpa [Kd.slice] using h1
theorem RowsIn.push {B : Nat} {L : List (List S35)} {j : Nat} {s s' v : Value} {vs : List Value} {X Y : World} (h : RowsIn B L j s vs X) (hv : X.ownsRow B 35 3 v (L.getD j []).length ((L.getD j []).flatMap c35')) (hn : ∀ g, v.ownBlock = some g → s.ownBlock ≠ some g)
    (hg : X.grownBy Y s.ownBlock) (hown : Y.ownsRow B 28 1 s' (j + 1) (vs ++ [v])) (hloc : s'.ownBlock = s.ownBlock ∨ s'.ownBlock = some X.heap.size) : RowsIn B L (j + 1) s' (vs ++ [v]) Y := by
  have hlen : vs.length = j := by simpa using h.own.1
  have far : ∀ u : Value, ∀ n xs, X.ownsRow B 35 3 u n xs → (∀ g, u.ownBlock = some g → s.ownBlock ≠ some g) → Y.ownsRow B 35 3 u n xs ∧ ∀ g, u.ownBlock = some g → s'.ownBlock ≠ some g := by
    intro u n xs ho hne
    refine ⟨ho.kept hg ?_, fun g hu e => ?_⟩
    · cases hu : u.ownBlock with
      | none => exact .inl rfl
      | some g => exact .inr fun e => hne g hu e.symm
    · rcases hloc with h1 | h1
      · exact hne g hu (h1.symm.trans e)
      · rw [h1] at e
        have := (ho.lt g hu).2
        injection e with e
        omega
  refine ⟨hown, fun q hq => ?_⟩
  by_cases hqj : q < j
  · obtain ⟨u, h1, h2, h3⟩ := h.row q hqj
    obtain ⟨h4, h5⟩ := far u _ _ h2 h3
    exact ⟨u, by rw [List.getElem?_append_left (by omega)]; exact h1, h4, h5⟩
  · obtain rfl : q = j := by omega
    obtain ⟨h4, h5⟩ := far v _ _ hv hn
    exact ⟨v, by rw [List.getElem?_append_right (by omega), hlen]; simp, h4, h5⟩
set_option maxRecDepth 100000 in
set_option maxHeartbeats 4000000 in
theorem chapmanref29_Rows.calls (k : Nat) (AT : Option Addr) (cT : Nat) (T : List S63) (A0 : Option Addr) (c0 : Nat) (ls : List (List Int)) (L : List (List S35)) (w : World) (hT : Kd.C k63 w AT T.length T) (hTl : T.length ≤ 100000) (hr : Kd.C (Kd.slice 5 (Kd.int .u8)) w A0 ls.length ls) (hb : ∀ l ∈ ls, ∀ x ∈ l, 0 ≤ x ∧ x < 256)
    (hL : L.length = min ls.length 12) (hv : ∀ i, i < L.length → RowOf k T (ls.getD i []) (L.getD i [])) :
    Calls Tryz.prog 11 #[.slice AT T.length cT, .slice A0 ls.length c0] w fun e w' => ∃ A c, e = .returned (.slice A L.length c) ∧ L.length ≤ c ∧ Kd.C (Kd.slice 35 k35) w' A L.length L ∧ Below w.heap.size w w' := by
  have hu24 := Tryz.underlying24
  have hu40 := Tryz.underlying40
  obtain ⟨i0, hi, hz0, hz1, hz2⟩ := info_parts info28r
  have HT := Lib.hid hT
  have HR := Lib.hid hr
  have HBy := Lib.hid hb
  have HV := Lib.hid hv
  have HLL := Lib.hid hL
  clear hT hr hb hv
  go_enter Tryz.func11, Tryz.ntmps11
  go_wp2
  go_loopw [5, 6] (fun s5 s6 wr => ∃ (j : Nat) (vs : List Value), s6 = .int .i64 j ∧ j ≤ L.length ∧ RowsIn w.heap.size L j s5 vs wr ∧ Below w.heap.size w wr) (fun _ s6 _ => L.length - (intOf s6).toNat)
  case atStart => exact ⟨0, [], rfl, Nat.zero_le _, ⟨⟨rfl, Or.inr ⟨w.heap.size, 0, #[], rfl, Nat.le_refl _, heap_alloc_new w _, Nat.le_refl _, Nat.zero_le _, rfl, rfl⟩⟩, fun q hq => absurd hq (Nat.not_lt_zero q)⟩, (Below.refl w.heap.size w).alloc (Nat.le_refl _) _⟩
  case round =>
    obtain ⟨j, vs, rfl, hj, hin, hB⟩ := hrel
    by_cases hlt : j < L.length
    · have hd : decide ((j : Int) < (ls.length : Int)) = true := decide_eq_true (by omega)
      have hd2 : decide ((j : Int) < 12) = true := decide_eq_true (by omega)
      obtain ⟨ad, A1, c1, e0, t0, hc1, hr1⟩ := at_LL (Kd.C_below HR.out hB) (j : Int) (by omega) (by omega)
      simp only [Int.toNat_natCast] at t0 hc1 hr1
      subst e0
      have hi0 : (0 : Int) ≤ (j : Int) := by omega
      have hi1 : (j : Int) < (ls.length : Int) := by omega
      have hby : ∀ x ∈ ls.getD j [], 0 ≤ x ∧ x < 256 := HBy.out _ (by rw [List.getD_eq_getElem?_getD, List.getElem?_eq_getElem (by omega)]; exact List.getElem_mem _)
      have hrow := HV.out j hlt
      have hj12 : j < 12 := by omega
      obtain ⟨l, hl⟩ : ∃ l, ls.getD j [] = l := ⟨_, rfl⟩
      obtain ⟨y, hy⟩ : ∃ y, L.getD j [] = y := ⟨_, rfl⟩
      rw [hl] at t0 hc1 hr1 hby hrow
      rw [hy] at hrow
      have HY := Lib.hid hy
      have HIN := Lib.hid hin
      have HBB := Lib.hid hB
      have HR1 := Lib.hid hr1
      have HBY := Lib.hid hby
      have HROW := Lib.hid hrow
      have HLT := Lib.hid hlt
      have HTT := Lib.hid (Kd.C_below HT.out hB)
      clear hin hB hr1 hby hrow hl hy hL hj hlt HR HBy HV HT
      go_wp2_with fail
      refine (chapmanref11_Row.calls k (AT) cT T A1 c1 l y wr HTT.out hTl HR1.out hc1 HBY.out HROW.out).mono ?_
      rintro e w2 ⟨v, rfl, ho, hb⟩
      obtain ⟨A9, c9, rfl, hc9, _⟩ := row_reads ho
      have hcell : ∀ q u, ([Value.slice A9 y.length c9])[q]? = some u → (w2.alloc (.cells #[.slice A9 y.length c9] 28)).cell? ((⟨w2.heap.size, 0, none⟩ : Addr).add q) = some u := by
        have := cell_one_new w2 (.slice A9 y.length c9) 28
        simpa using this
      have hbs := HBB.out.size
      have hbz := hb.size
      have hZ : Below wr.heap.size wr (w2.alloc (.cells #[.slice A9 y.length c9] 28)) := below_alloc hb _
      have HIN2 := Lib.hid (HIN.out.below hZ)
      have HOZ := Lib.hid (own_below ho (below_alloc (Below.refl w2.heap.size w2) (.cells #[.slice A9 y.length c9] 28)))
      have hB2 := below_then HBB.out HBB.out.size hZ
      have HB2 := Lib.hid hB2
      have hNE : ∀ g, (Value.slice A9 y.length c9).ownBlock = some g → u5.ownBlock ≠ some g := fun g h1 h2 => by
        have := (ho.lt g h1).1
        have := (HIN.out.own.lt g h2).2
        omega
      have HNE := Lib.hid hNE
      clear hNE hZ ho hb hB2 HTT HR1 HBY HROW hc9 hc1 t0
      go_wp2_with (at_builtin; refine wpList_append_own_at _ rfl _ _ 40 rfl w.heap.size 28 i0 (.slice none 0 0) 1 24 hu40 hi hz0 hz1 hz2 rfl (by decide) _ j _ rfl HIN2.out.own ⟨w2.heap.size, 0, none⟩ 1 1 [.slice A9 y.length c9] rfl rfl hcell (by simp [Value.oneCell']) (by unfold maxLen; omega) (by omega) (by simp; omega) ?_; intro v' w5 hown' hgrow hnil hloc)
      have hB5 := HB2.out.grown hgrow HB2.out.size (fun g h => (HIN2.out.own.lt g h).1)
      have hP := HIN2.out.push (by rw [HY.out]; exact own_lower HOZ.out hbs) HNE.out hgrow hown' hloc
      have hlt := HLT.out
      clear hcell hgrow hown' hloc hnil HIN HIN2 HBB HB2 HOZ HNE
      exact ⟨⟨j + 1, vs ++ [.slice A9 y.length c9], by simp, by omega, hP, hB5⟩, by simp [intOf]; omega⟩
    · obtain rfl : j = L.length := by omega
      obtain ⟨A, c, rfl, hcc, hC⟩ := hin.reads (by omega)
      clear hin HR HBy HV HT
      by_cases hd0 : L.length < ls.length
      · have hd : decide ((L.length : Int) < (ls.length : Int)) = true := decide_eq_true (by omega)
        have hd2 : decide ((L.length : Int) < 12) = false := decide_eq_false (by omega)
        go_wp2_with fail
        exact bodyPost_ret (v := .slice A L.length c) (by simp [results, Tryz.results11, go_sem, *]) rfl ⟨A, c, rfl, hcc, hC, hB⟩
      · have hd : decide ((L.length : Int) < (ls.length : Int)) = false := decide_eq_false (by omega)
        go_wp2_with fail
        exact bodyPost_ret (v := .slice A L.length c) (by simp [results, Tryz.results11, go_sem, *]) rfl ⟨A, c, rfl, hcc, hC, hB⟩
end Go.Proofs.YteflfnjljjianaaGreatDoor.Qx
