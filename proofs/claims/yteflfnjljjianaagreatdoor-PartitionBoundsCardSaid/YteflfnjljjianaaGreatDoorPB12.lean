/- Part of a proof of PartitionBoundsCardSaid: functions of the given program and what they compute, each checked by the kernel. -/
import Derived.Test.YteflfnjljjianaaGreatDoorPB02
import Derived.Test.YteflfnjljjianaaGreatDoorPB06
import Derived.Test.YteflfnjljjianaaGreatDoorPB10
import Derived.Deep.RegionHeld3
import Derived.Deep.AppendLies
import Derived.Test.YteflfnjljjianaaGreatDoorPB03
import Derived.Test.YteflfnjljjianaaGreatDoorPB05
import Derived.Test.YteflfnjljjianaaGreatDoorPB11
import Derived.KernelRfl
import Derived.Test.YteflfnjljjianaaGreatDoorPB08
import Derived.Test.YteflfnjljjianaaGreatDoorPB07
import Derived.Test.YteflfnjljjianaaGreatDoorPB01
namespace Go.Proofs.YteflfnjljjianaaGreatDoor.Qx
open Go.RowKit Go.Proofs.YteflfnjljjianaaGreatDoorW.PrintWords Go.Proofs.YteflfnjljjianaaGreatDoorW.PrintLast Go.Proofs.YteflfnjljjianaaGreatDoorW.PrintMore
attribute [local go_sem] max2_int min2_int max_two min_two
set_option linter.unusedVariables false
set_option linter.unusedSimpArgs false
def chapmanref06_Bool.f (a0 : Bool) : Option (Int × Int × ByteArray) := if a0 = true then (some (1, 1, (⟨#[]⟩ : ByteArray))) else (some (1, 0, (⟨#[]⟩ : ByteArray)))
set_option maxHeartbeats 8000000 in
set_option maxRecDepth 100000 in
theorem chapmanref06_Bool.calls (a0 : Bool) (r1 : Int) (r2 : Int) (r3 : ByteArray) (w : World) (h : chapmanref06_Bool.f a0 = some (r1, r2, r3)) :
    Calls Tryz.prog 61 #[.bool a0] w fun e w' => e = .returned (.agg #[.int .i64 r1, .int .i64 r2, .string r3]) ∧ Below w.heap.size w w' := by
  have hu35 := Tryz.underlying35
  have HB := Aside0.mk (Below.refl w.heap.size w)
  have H : (if a0 = true then (some (1, 1, (⟨#[]⟩ : ByteArray))) else (some (1, 0, (⟨#[]⟩ : ByteArray)))) = some (r1, r2, r3) := h
  clear h
  by_cases c2 : a0 = true
  · subst c2
    have H1 : (some (1, 1, (⟨#[]⟩ : ByteArray))) = some (r1, r2, r3) := by rw [if_pos rfl] at H; exact H
    clear H
    have H := H1
    clear H1
    simp only [Option.some.injEq, Prod.mk.injEq] at H
    obtain ⟨rfl, rfl, rfl⟩ := H
    go_enter Tryz.func61, Tryz.ntmps61
    go_wp2_with (first | ((with_reducible refine gate_dst (N := 2) rfl ?_); refine box_event ?hg (N := 2) ?hd (cs := #[.int .i64 0, .int .i64 0, .string (⟨#[]⟩ : ByteArray)]) (t := 35) ?hr ?_; (case hd => rfl); (case hg => rfl); (case hr => first | (go_simp; done) | (go_simp; rfl)); intro gb101 hg w3 hbox hb; have n0_ := Aside0.mk (below_step (by repeat (first | (with_reducible first | exact HB.out | apply below_alloc | apply pw_below_drewN | apply below_drew1) | exact HB.out)) hb); have n1_ := Aside0.mk (hbox); have n2_ := Aside0.mk ((by rw [hg]; exact (below_size (by repeat (first | (with_reducible first | exact HB.out | apply below_alloc | apply pw_below_drewN | apply below_drew1) | exact HB.out))) : w.heap.size ≤ gb101)); have n3_ := Aside0.mk ((by rw [hg]; exact (below_size (by repeat (first | (with_reducible first | exact HB.out | apply below_alloc | apply pw_below_drewN | apply below_drew1) | exact HB.out))) : w.heap.size ≤ gb101)); clear HB; have HB := n0_; have BK101 := n1_; have GW101 := n2_; have GE101 := n3_; clear n0_ n1_ n2_ n3_; clear hb hbox hg; have hcz4_0 : w3.cell? ⟨gb101, 0, none⟩ = some (.int .i64 0) := (blk_cell BK101.out 0).trans rfl; have hcz4_1 : w3.cell? ⟨gb101, 1, none⟩ = some (.int .i64 0) := (blk_cell BK101.out 1).trans rfl; have hcz4_2 : w3.cell? ⟨gb101, 2, none⟩ = some (.string (⟨#[]⟩ : ByteArray)) := (blk_cell BK101.out 2).trans rfl; have hfz4_0 := blk_frozen BK101.out 0; have hfz4_1 := blk_frozen BK101.out 1; have hfz4_2 := blk_frozen BK101.out 2))
    refine bodyPost_ret (results_cell_row rfl _ _ gb101 35 #[.int .i64 1, .int .i64 1, .string (⟨#[]⟩ : ByteArray)] (0, 0) _ rfl (by (with_reducible repeat (first | refine blk_drewN ?_ _ | refine blk_drew ?_ | refine blk_alloc ?_ _)); refine blk_put (cs := #[.int .i64 1, .int .i64 1, .string (⟨#[]⟩ : ByteArray)]) ?_ 2 _ rfl; (with_reducible repeat (first | refine blk_drewN ?_ _ | refine blk_drew ?_ | refine blk_alloc ?_ _)); refine blk_put (cs := #[.int .i64 1, .int .i64 0, .string (⟨#[]⟩ : ByteArray)]) ?_ 1 _ rfl; (with_reducible repeat (first | refine blk_drewN ?_ _ | refine blk_drew ?_ | refine blk_alloc ?_ _)); refine blk_put (cs := #[.int .i64 0, .int .i64 0, .string (⟨#[]⟩ : ByteArray)]) ?_ 0 _ rfl; (with_reducible repeat (first | refine blk_drewN ?_ _ | refine blk_drew ?_ | refine blk_alloc ?_ _)); exact BK101.out) Tryz.underlying35 rfl (by kernel_rfl)) rfl ?_
    exact ⟨by first | rfl | (simp [errW_none, errW_some] <;> rfl) | (simp [*, errW_none, errW_some] <;> rfl), by repeat (first | (with_reducible first | exact HB.out | apply below_alloc | apply pw_below_drewN | apply below_drew1 | refine below_set ?_ GE101.out) | exact HB.out)⟩
  · replace c2 := Bool.eq_false_iff.mpr c2
    subst c2
    have H1 : (some (1, 0, (⟨#[]⟩ : ByteArray))) = some (r1, r2, r3) := by rw [if_neg (show ¬ (false = true) by decide)] at H; exact H
    clear H
    have H := H1
    clear H1
    simp only [Option.some.injEq, Prod.mk.injEq] at H
    obtain ⟨rfl, rfl, rfl⟩ := H
    go_enter Tryz.func61, Tryz.ntmps61
    go_wp2_with (first | ((with_reducible refine gate_dst (N := 2) rfl ?_); refine box_event ?hg (N := 2) ?hd (cs := #[.int .i64 0, .int .i64 0, .string (⟨#[]⟩ : ByteArray)]) (t := 35) ?hr ?_; (case hd => rfl); (case hg => rfl); (case hr => first | (go_simp; done) | (go_simp; rfl)); intro gb101 hg w5 hbox hb; have n0_ := Aside0.mk (below_step (by repeat (first | (with_reducible first | exact HB.out | apply below_alloc | apply pw_below_drewN | apply below_drew1) | exact HB.out)) hb); have n1_ := Aside0.mk (hbox); have n2_ := Aside0.mk ((by rw [hg]; exact (below_size (by repeat (first | (with_reducible first | exact HB.out | apply below_alloc | apply pw_below_drewN | apply below_drew1) | exact HB.out))) : w.heap.size ≤ gb101)); have n3_ := Aside0.mk ((by rw [hg]; exact (below_size (by repeat (first | (with_reducible first | exact HB.out | apply below_alloc | apply pw_below_drewN | apply below_drew1) | exact HB.out))) : w.heap.size ≤ gb101)); clear HB; have HB := n0_; have BK101 := n1_; have GW101 := n2_; have GE101 := n3_; clear n0_ n1_ n2_ n3_; clear hb hbox hg; have hcz6_0 : w5.cell? ⟨gb101, 0, none⟩ = some (.int .i64 0) := (blk_cell BK101.out 0).trans rfl; have hcz6_1 : w5.cell? ⟨gb101, 1, none⟩ = some (.int .i64 0) := (blk_cell BK101.out 1).trans rfl; have hcz6_2 : w5.cell? ⟨gb101, 2, none⟩ = some (.string (⟨#[]⟩ : ByteArray)) := (blk_cell BK101.out 2).trans rfl; have hfz6_0 := blk_frozen BK101.out 0; have hfz6_1 := blk_frozen BK101.out 1; have hfz6_2 := blk_frozen BK101.out 2))
    refine bodyPost_ret (results_cell_row rfl _ _ gb101 35 #[.int .i64 1, .int .i64 0, .string (⟨#[]⟩ : ByteArray)] (0, 0) _ rfl (by (with_reducible repeat (first | refine blk_drewN ?_ _ | refine blk_drew ?_ | refine blk_alloc ?_ _)); refine blk_put (cs := #[.int .i64 1, .int .i64 0, .string (⟨#[]⟩ : ByteArray)]) ?_ 2 _ rfl; (with_reducible repeat (first | refine blk_drewN ?_ _ | refine blk_drew ?_ | refine blk_alloc ?_ _)); refine blk_put (cs := #[.int .i64 1, .int .i64 0, .string (⟨#[]⟩ : ByteArray)]) ?_ 1 _ rfl; (with_reducible repeat (first | refine blk_drewN ?_ _ | refine blk_drew ?_ | refine blk_alloc ?_ _)); refine blk_put (cs := #[.int .i64 0, .int .i64 0, .string (⟨#[]⟩ : ByteArray)]) ?_ 0 _ rfl; (with_reducible repeat (first | refine blk_drewN ?_ _ | refine blk_drew ?_ | refine blk_alloc ?_ _)); exact BK101.out) Tryz.underlying35 rfl (by kernel_rfl)) rfl ?_
    exact ⟨by first | rfl | (simp [errW_none, errW_some] <;> rfl) | (simp [*, errW_none, errW_some] <;> rfl), by repeat (first | (with_reducible first | exact HB.out | apply below_alloc | apply pw_below_drewN | apply below_drew1 | refine below_set ?_ GE101.out) | exact HB.out)⟩
end Go.Proofs.YteflfnjljjianaaGreatDoor.Qx
namespace Go.Proofs.YteflfnjljjianaaGreatDoor.Qx
open Go.RowKit Go.Proofs.YteflfnjljjianaaGreatDoorW.PrintWords Go.Proofs.YteflfnjljjianaaGreatDoorW.PrintLast Go.Proofs.YteflfnjljjianaaGreatDoorW.PrintMore
attribute [local go_sem] max2_int min2_int max_two min_two
set_option linter.unusedVariables false
set_option linter.unusedSimpArgs false
def chapmanref06_Step.l0 : Nat → Int → Int → Int → Option (Int)
  | 0, _, _, _ => none
  | k + 1, x0, x3, x4 => if x4 < x0 then (chapmanref06_Step.l0 k x0 (wrap64 (Int.tdiv x3 10)) (wrap64 (x4 + 1))) else (some x3)
def chapmanref06_Step.f (k : Nat) (a0 : Int) : Option (Int) := chapmanref06_Step.l0 k a0 1000000 0
set_option maxHeartbeats 8000000 in
set_option maxRecDepth 100000 in
theorem chapmanref06_Step.calls (k : Nat) (a0 : Int) (r : Int) (w : World) (h : chapmanref06_Step.f k a0 = some r) :
    Calls Tryz.prog 62 #[.int .i64 a0] w fun e w' => e = .returned (.int .i64 r) ∧ Drawn0 w w' := by
  have H : (chapmanref06_Step.l0 k a0 1000000 0) = some r := h
  clear h
  have H' := Aside0.mk H
  clear H
  go_enter Tryz.func62, Tryz.ntmps62
  go_wp2
  go_loopg [3, 4] k (fun kq v3 v4 w' => ∃ (x3_1 : Int) (x4_1 : Int), v3 = .int .i64 x3_1 ∧ v4 = .int .i64 x4_1 ∧ Aside0 (chapmanref06_Step.l0 kq a0 x3_1 x4_1 = some r) ∧ Aside0 (kq ≤ k) ∧ Drawn0 w w')
  case atStart => exact ⟨(1000000), (0), (by first | rfl | (simp; done) | (simp [*]; done)), (by first | rfl | (simp; done) | (simp [*]; done)), H', ⟨Nat.le_refl _⟩, by repeat (first | exact Drawn0.refl _ | apply Drawn0.step)⟩
  case round =>
    clear H'
    obtain ⟨x3_1, x4_1, rfl, rfl, HA, HK1, ⟨m1, rfl⟩⟩ := hrel
    cases gk with
    | zero => exact absurd HA.out (by simp [chapmanref06_Step.l0])
    | succ k1 =>
      have H := HA.out
      clear HA
      simp only [chapmanref06_Step.l0] at H
      by_cases c2 : x4_1 < a0
      · rw [if_pos c2] at H
        have c2b0 : decide (x4_1 < a0) = true := decide_eq_true c2
        clear c2
        have H' := Aside0.mk H
        clear H
        go_wp2
        go_roundg k1
        case measure => have := HK1.out; omega
        case rel => exact ⟨(wrap64 (Int.tdiv x3_1 10)), (wrap64 (x4_1 + 1)), (by first | rfl | (simp; done) | (simp [*]; done)), (by first | rfl | (simp; done) | (simp [*]; done)), H', ⟨by have := HK1.out; omega⟩, by repeat (first | exact Drawn0.refl _ | apply Drawn0.step)⟩
      · rw [if_neg c2] at H
        have c2b0 : decide (x4_1 < a0) = false := decide_eq_false c2
        clear c2
        obtain rfl := Option.some.inj H
        go_wp2
        go_ret
        exact ⟨by first | rfl | (simp; done) | (simp [*]; done), by repeat (first | exact Drawn0.refl _ | apply Drawn0.step)⟩
end Go.Proofs.YteflfnjljjianaaGreatDoor.Qx
namespace Go.Proofs.YteflfnjljjianaaGreatDoor.Qx
open Go.RowKit Go.Proofs.YteflfnjljjianaaGreatDoorW.PrintWords Go.Proofs.YteflfnjljjianaaGreatDoorW.PrintLast Go.Proofs.YteflfnjljjianaaGreatDoorW.PrintMore
attribute [local go_sem] max2_int min2_int max_two min_two
set_option linter.unusedVariables false
set_option linter.unusedSimpArgs false
def chapmanref06_words.f (a0 : Int) : Option (ByteArray) := (some (([(⟨#[]⟩ : ByteArray), (⟨#[97]⟩ : ByteArray), (⟨#[98]⟩ : ByteArray), (⟨#[97, 98]⟩ : ByteArray), (⟨#[97, 32, 98]⟩ : ByteArray), (⟨#[98, 32, 97, 32, 99]⟩ : ByteArray), (⟨#[120, 45, 121]⟩ : ByteArray), (⟨#[45]⟩ : ByteArray), (⟨#[49, 50]⟩ : ByteArray), (⟨#[45, 48, 46, 53]⟩ : ByteArray), (⟨#[97, 34, 98]⟩ : ByteArray), (⟨#[92]⟩ : ByteArray), (⟨#[48]⟩ : ByteArray), (⟨#[55, 46, 50, 53]⟩ : ByteArray), (⟨#[97, 98, 99, 100, 101, 102, 103, 104, 105, 106, 107, 108, 109, 110, 111, 112, 113, 114, 115, 116, 117, 118, 119, 120, 121, 122, 97, 98, 99, 100, 101, 102, 103, 104, 105, 106, 107, 108, 109, 110]⟩ : ByteArray)] : List ByteArray) : List ByteArray)).bind fun y101 => (if 0 ≤ (Int.tmod a0 15) then (if (Int.tmod a0 15) < (y101.length : Int) then (some (rdOf ByteArray.empty y101 (Int.tmod a0 15))) else (none)) else (none))
set_option maxHeartbeats 8000000 in
set_option maxRecDepth 100000 in
theorem chapmanref06_words.calls (a0 : Int) (r : ByteArray) (w : World) (h : chapmanref06_words.f a0 = some r) :
    Calls Tryz.prog 63 #[.int .i64 a0] w fun e w' => e = .returned (.string r) ∧ Below w.heap.size w w' := by
  have HB := Aside0.mk (Below.refl w.heap.size w)
  have H : ((some (([(⟨#[]⟩ : ByteArray), (⟨#[97]⟩ : ByteArray), (⟨#[98]⟩ : ByteArray), (⟨#[97, 98]⟩ : ByteArray), (⟨#[97, 32, 98]⟩ : ByteArray), (⟨#[98, 32, 97, 32, 99]⟩ : ByteArray), (⟨#[120, 45, 121]⟩ : ByteArray), (⟨#[45]⟩ : ByteArray), (⟨#[49, 50]⟩ : ByteArray), (⟨#[45, 48, 46, 53]⟩ : ByteArray), (⟨#[97, 34, 98]⟩ : ByteArray), (⟨#[92]⟩ : ByteArray), (⟨#[48]⟩ : ByteArray), (⟨#[55, 46, 50, 53]⟩ : ByteArray), (⟨#[97, 98, 99, 100, 101, 102, 103, 104, 105, 106, 107, 108, 109, 110, 111, 112, 113, 114, 115, 116, 117, 118, 119, 120, 121, 122, 97, 98, 99, 100, 101, 102, 103, 104, 105, 106, 107, 108, 109, 110]⟩ : ByteArray)] : List ByteArray) : List ByteArray)).bind fun y101 => (if 0 ≤ (Int.tmod a0 15) then (if (Int.tmod a0 15) < (y101.length : Int) then (some (rdOf ByteArray.empty y101 (Int.tmod a0 15))) else (none)) else (none))) = some r := h
  clear h
  obtain ⟨y101, hy101⟩ : ∃ y_ : List ByteArray, y_ = (([(⟨#[]⟩ : ByteArray), (⟨#[97]⟩ : ByteArray), (⟨#[98]⟩ : ByteArray), (⟨#[97, 98]⟩ : ByteArray), (⟨#[97, 32, 98]⟩ : ByteArray), (⟨#[98, 32, 97, 32, 99]⟩ : ByteArray), (⟨#[120, 45, 121]⟩ : ByteArray), (⟨#[45]⟩ : ByteArray), (⟨#[49, 50]⟩ : ByteArray), (⟨#[45, 48, 46, 53]⟩ : ByteArray), (⟨#[97, 34, 98]⟩ : ByteArray), (⟨#[92]⟩ : ByteArray), (⟨#[48]⟩ : ByteArray), (⟨#[55, 46, 50, 53]⟩ : ByteArray), (⟨#[97, 98, 99, 100, 101, 102, 103, 104, 105, 106, 107, 108, 109, 110, 111, 112, 113, 114, 115, 116, 117, 118, 119, 120, 121, 122, 97, 98, 99, 100, 101, 102, 103, 104, 105, 106, 107, 108, 109, 110]⟩ : ByteArray)] : List ByteArray)) := ⟨_, rfl⟩
  replace H : (if 0 ≤ (Int.tmod a0 15) then (if (Int.tmod a0 15) < (y101.length : Int) then (some (rdOf ByteArray.empty y101 (Int.tmod a0 15))) else (none)) else (none)) = some r := by first | (rw [hy101]; with_reducible exact H) | (have H2_ := (Option.bind_some _ _).symm.trans H; rw [hy101]; with_reducible exact H2_) | (have H2_ := (Option.bind_some _ _).symm.trans H; with_reducible exact H2_) | with_reducible exact H | (rw [hy101]; exact H) | exact H
  have Ny101 := Aside0.mk hy101
  clear hy101
  obtain ⟨ji2, hji2⟩ : ∃ j_ : Int, (Int.tmod a0 15) = j_ := ⟨_, rfl⟩
  replace H : (if 0 ≤ (ji2) then (if (ji2) < (y101.length : Int) then (some (rdOf ByteArray.empty y101 (ji2))) else (none)) else (none)) = some r := by first | (rw [hji2] at H; exact H) | (simp only [hji2] at H ⊢; exact H)
  by_cases c3 : 0 ≤ (ji2)
  · rw [if_pos c3] at H
    have c3b0 : decide (0 ≤ (ji2)) = true := decide_eq_true c3
    clear c3
    by_cases c4 : (ji2) < (y101.length : Int)
    · rw [if_pos c4] at H
      have c4b0 : decide ((ji2) < (y101.length : Int)) = true := decide_eq_true c4
      clear c4
      obtain rfl := Option.some.inj H
      go_enter Tryz.func63, Tryz.ntmps63
      go_wp2_with (first | ((with_reducible refine gate_dst (N := 3) rfl ?_); refine Kd.R_lit Kd.string _ 9 ?hg (N := 3) ?hd (xs := ([(⟨#[]⟩ : ByteArray), (⟨#[97]⟩ : ByteArray), (⟨#[98]⟩ : ByteArray), (⟨#[97, 98]⟩ : ByteArray), (⟨#[97, 32, 98]⟩ : ByteArray), (⟨#[98, 32, 97, 32, 99]⟩ : ByteArray), (⟨#[120, 45, 121]⟩ : ByteArray), (⟨#[45]⟩ : ByteArray), (⟨#[49, 50]⟩ : ByteArray), (⟨#[45, 48, 46, 53]⟩ : ByteArray), (⟨#[97, 34, 98]⟩ : ByteArray), (⟨#[92]⟩ : ByteArray), (⟨#[48]⟩ : ByteArray), (⟨#[55, 46, 50, 53]⟩ : ByteArray), (⟨#[97, 98, 99, 100, 101, 102, 103, 104, 105, 106, 107, 108, 109, 110, 111, 112, 113, 114, 115, 116, 117, 118, 119, 120, 121, 122, 97, 98, 99, 100, 101, 102, 103, 104, 105, 106, 107, 108, 109, 110]⟩ : ByteArray)] : List ByteArray)) (inner := [.string (⟨#[]⟩ : ByteArray), .string (⟨#[97]⟩ : ByteArray), .string (⟨#[98]⟩ : ByteArray), .string (⟨#[97, 98]⟩ : ByteArray), .string (⟨#[97, 32, 98]⟩ : ByteArray), .string (⟨#[98, 32, 97, 32, 99]⟩ : ByteArray), .string (⟨#[120, 45, 121]⟩ : ByteArray), .string (⟨#[45]⟩ : ByteArray), .string (⟨#[49, 50]⟩ : ByteArray), .string (⟨#[45, 48, 46, 53]⟩ : ByteArray), .string (⟨#[97, 34, 98]⟩ : ByteArray), .string (⟨#[92]⟩ : ByteArray), .string (⟨#[48]⟩ : ByteArray), .string (⟨#[55, 46, 50, 53]⟩ : ByteArray), .string (⟨#[97, 98, 99, 100, 101, 102, 103, 104, 105, 106, 107, 108, 109, 110, 111, 112, 113, 114, 115, 116, 117, 118, 119, 120, 121, 122, 97, 98, 99, 100, 101, 102, 103, 104, 105, 106, 107, 108, 109, 110]⟩ : ByteArray)]) (ok := fun _ => True) (okp := fun _ => True) ?hr ?hp (fun _ hk => hk) trivial (Below.refl _ _) (Nat.le_refl _) (by simp) ?_; (case hd => rfl); (case hg => rfl); (case hr => first | (go_simp; done) | (go_simp; rfl)); (case hp => exact (Reps.one (show Kd.M Kd.string _ _ _ (⟨#[]⟩ : ByteArray) [.string (⟨#[]⟩ : ByteArray)] from rfl) (Reps.one (show Kd.M Kd.string _ _ _ (⟨#[97]⟩ : ByteArray) [.string (⟨#[97]⟩ : ByteArray)] from rfl) (Reps.one (show Kd.M Kd.string _ _ _ (⟨#[98]⟩ : ByteArray) [.string (⟨#[98]⟩ : ByteArray)] from rfl) (Reps.one (show Kd.M Kd.string _ _ _ (⟨#[97, 98]⟩ : ByteArray) [.string (⟨#[97, 98]⟩ : ByteArray)] from rfl) (Reps.one (show Kd.M Kd.string _ _ _ (⟨#[97, 32, 98]⟩ : ByteArray) [.string (⟨#[97, 32, 98]⟩ : ByteArray)] from rfl) (Reps.one (show Kd.M Kd.string _ _ _ (⟨#[98, 32, 97, 32, 99]⟩ : ByteArray) [.string (⟨#[98, 32, 97, 32, 99]⟩ : ByteArray)] from rfl) (Reps.one (show Kd.M Kd.string _ _ _ (⟨#[120, 45, 121]⟩ : ByteArray) [.string (⟨#[120, 45, 121]⟩ : ByteArray)] from rfl) (Reps.one (show Kd.M Kd.string _ _ _ (⟨#[45]⟩ : ByteArray) [.string (⟨#[45]⟩ : ByteArray)] from rfl) (Reps.one (show Kd.M Kd.string _ _ _ (⟨#[49, 50]⟩ : ByteArray) [.string (⟨#[49, 50]⟩ : ByteArray)] from rfl) (Reps.one (show Kd.M Kd.string _ _ _ (⟨#[45, 48, 46, 53]⟩ : ByteArray) [.string (⟨#[45, 48, 46, 53]⟩ : ByteArray)] from rfl) (Reps.one (show Kd.M Kd.string _ _ _ (⟨#[97, 34, 98]⟩ : ByteArray) [.string (⟨#[97, 34, 98]⟩ : ByteArray)] from rfl) (Reps.one (show Kd.M Kd.string _ _ _ (⟨#[92]⟩ : ByteArray) [.string (⟨#[92]⟩ : ByteArray)] from rfl) (Reps.one (show Kd.M Kd.string _ _ _ (⟨#[48]⟩ : ByteArray) [.string (⟨#[48]⟩ : ByteArray)] from rfl) (Reps.one (show Kd.M Kd.string _ _ _ (⟨#[55, 46, 50, 53]⟩ : ByteArray) [.string (⟨#[55, 46, 50, 53]⟩ : ByteArray)] from rfl) (Reps.one (show Kd.M Kd.string _ _ _ (⟨#[97, 98, 99, 100, 101, 102, 103, 104, 105, 106, 107, 108, 109, 110, 111, 112, 113, 114, 115, 116, 117, 118, 119, 120, 121, 122, 97, 98, 99, 100, 101, 102, 103, 104, 105, 106, 107, 108, 109, 110]⟩ : ByteArray) [.string (⟨#[97, 98, 99, 100, 101, 102, 103, 104, 105, 106, 107, 108, 109, 110, 111, 112, 113, 114, 115, 116, 117, 118, 119, 120, 121, 122, 97, 98, 99, 100, 101, 102, 103, 104, 105, 106, 107, 108, 109, 110]⟩ : ByteArray)] from rfl) (Reps.none _ _))))))))))))))))); intro v102 w5 ho6 hb hg_ hnew_; clear hg_ hnew_; (first | rw [← Ny101.out] at ho6 | (simp only [Int.reduceToNat] at ho6; rw [← Ny101.out] at ho6)); have n0_ := Aside0.mk (Kd.R_lower ho6 (below_size (by repeat (first | (with_reducible first | exact HB.out | apply below_alloc | apply pw_below_drewN | apply below_drew1) | exact HB.out)))); have n1_ := Aside0.mk (below_step (by repeat (first | (with_reducible first | exact HB.out | apply below_alloc | apply pw_below_drewN | apply below_drew1) | exact HB.out)) hb); clear HB; have HO103 := n0_; have HB := n1_; clear n0_ n1_; clear hb ho6; obtain ⟨Ao7, co7, eo7⟩ := Kd.R_slice HO103.out; subst eo7; have p104 : 0 ≤ ((ji2) : Int) := of_decide_eq_true (by first | (with_reducible assumption) | assumption); have q104 : (ji2) < (y101.length : Int) := of_decide_eq_true (by first | (with_reducible assumption) | assumption); obtain ⟨ad104, e104, hx104_0⟩ := Kd.at_string (Kd.R_reads' HO103.out).2.2 (ji2) p104 q104; cases e104; replace p104 := eq_true p104; replace q104 := eq_true q104))
      go_ret
      exact ⟨by first | rfl | (simp [errW_none, errW_some] <;> rfl) | (simp only [← hji2]; first | rfl | (simp [errW_none, errW_some] <;> rfl)) | (simp [*, errW_none, errW_some] <;> rfl), by repeat (first | (with_reducible first | exact HB.out | apply below_alloc | apply pw_below_drewN | apply below_drew1) | exact HB.out)⟩
    · rw [if_neg c4] at H
      exact absurd H (by simp)
  · rw [if_neg c3] at H
    exact absurd H (by simp)
end Go.Proofs.YteflfnjljjianaaGreatDoor.Qx
namespace Go.Proofs.YteflfnjljjianaaGreatDoor.Qx
open Go.RowKit Go.Proofs.YteflfnjljjianaaGreatDoorW.PrintWords Go.Proofs.YteflfnjljjianaaGreatDoorW.PrintLast Go.Proofs.YteflfnjljjianaaGreatDoorW.PrintMore
attribute [local go_sem] max2_int min2_int max_two min_two
set_option linter.unusedVariables false
set_option linter.unusedSimpArgs false
def chapmanref06_Value.j0 : Nat → Bool → Int → Int → Bool → Int → Int → Option (Int × Int × ByteArray)
  | 0, _, _, _, _, _, _ => none
  | k + 1, x13, x102000, x102001, x102002, x103000, x103001 => if x13 = true then ((chapmanref06_Null.f).bind fun bt104 => (some (bt104.1, bt104.2.1, bt104.2.2))) else (if x102000 = 1 then ((chapmanref06_Bool.f ((Int.tmod x103001 2) == 1)).bind fun bt107 => (some (bt107.1, bt107.2.1, bt107.2.2))) else (if x102000 = 2 then (if (Int.tmod x103000 4) = 1 then ((chapmanref06_Step.f k x102001).bind fun t110 => ((chapmanref06_Num.f (wrap64 ((wrap64 ((wrap64 (Int.tmod x103001 40)) - 12)) * t110))).bind fun bt111 => (some (bt111.1, bt111.2.1, bt111.2.2)))) else ((chapmanref06_Whole.f (wrap64 ((wrap64 (Int.tmod x103001 40)) - 12))).bind fun bt114 => (some (bt114.1, bt114.2.1, bt114.2.2)))) else ((chapmanref06_words.f (wrap64 (x103001))).bind fun t117 => ((chapmanref06_Str.f t117).bind fun bt118 => (some (bt118.1, bt118.2.1, bt118.2.2))))))
def chapmanref06_Value.f (k : Nat) (a0_0 : Int) (a0_1 : Int) (a0_2 : Bool) (a1_0 : Int) (a1_1 : Int) : Option (Int × Int × ByteArray) := if a0_2 = true then (chapmanref06_Value.j0 k ((Int.tmod a1_0 5) == 0) a0_0 a0_1 a0_2 a1_0 a1_1) else (chapmanref06_Value.j0 k false a0_0 a0_1 a0_2 a1_0 a1_1)
set_option maxHeartbeats 8000000 in
set_option maxRecDepth 100000 in
theorem chapmanref06_Value.calls (k : Nat) (a0_0 : Int) (a0_1 : Int) (a0_2 : Bool) (a1_0 : Int) (a1_1 : Int) (r1 : Int) (r2 : Int) (r3 : ByteArray) (w : World) (h : chapmanref06_Value.f k a0_0 a0_1 a0_2 a1_0 a1_1 = some (r1, r2, r3)) :
    Calls Tryz.prog 31 #[.agg #[.int .i64 a0_0, .int .i64 a0_1, .bool a0_2], .agg #[.int .u8 a1_0, .int .u8 a1_1]] w fun e w' => e = .returned (.agg #[.int .i64 r1, .int .i64 r2, .string r3]) ∧ Below w.heap.size w w' := by
  have hu63 := Tryz.underlying63
  have hu70 := Tryz.underlying70
  have hu35 := Tryz.underlying35
  have HB := Aside0.mk (Below.refl w.heap.size w)
  have H : (if a0_2 = true then (chapmanref06_Value.j0 k ((Int.tmod a1_0 5) == 0) a0_0 a0_1 a0_2 a1_0 a1_1) else (chapmanref06_Value.j0 k false a0_0 a0_1 a0_2 a1_0 a1_1)) = some (r1, r2, r3) := h
  clear h
  have HC3 := Aside0.mk H
  clear H
  go_enter Tryz.func31, Tryz.ntmps31
  go_upto_region 1 with (first | ((with_reducible refine gate_dst (N := 2) rfl ?_); refine box_event ?hg (N := 2) ?hd (cs := #[.int .i64 a0_0, .int .i64 a0_1, .bool a0_2]) (t := 63) ?hr ?_; (case hd => rfl); (case hg => rfl); (case hr => first | (go_simp; done) | (go_simp; rfl)); intro gb101 hg w4 hbox hb; have n0_ := Aside0.mk (below_step (by repeat (first | (with_reducible first | exact HB.out | apply below_alloc | apply pw_below_drewN | apply below_drew1) | exact HB.out)) hb); have n1_ := Aside0.mk (hbox); have n2_ := Aside0.mk ((by rw [hg]; exact (below_size (by repeat (first | (with_reducible first | exact HB.out | apply below_alloc | apply pw_below_drewN | apply below_drew1) | exact HB.out))) : w.heap.size ≤ gb101)); have n3_ := Aside0.mk ((by rw [hg]; exact (below_size (by repeat (first | (with_reducible first | exact HB.out | apply below_alloc | apply pw_below_drewN | apply below_drew1) | exact HB.out))) : w.heap.size ≤ gb101)); clear HB; have HB := n0_; have BK101 := n1_; have GW101 := n2_; have GE101 := n3_; clear n0_ n1_ n2_ n3_; clear hb hbox hg) | ((with_reducible refine gate_dst (N := 3) rfl ?_); refine box_event ?hg (N := 3) ?hd (cs := #[.int .u8 a1_0, .int .u8 a1_1]) (t := 70) ?hr ?_; (case hd => rfl); (case hg => rfl); (case hr => first | (go_simp; done) | (go_simp; rfl)); intro gb102 hg w5 hbox hb; have n0_ := Aside0.mk (blk_below (g := gb101) (o := .cells #[.int .i64 a0_0, .int .i64 a0_1, .bool a0_2] 63 (0, 0)) (by (with_reducible repeat (first | refine blk_drewN ?_ _ | refine blk_drew ?_ | refine blk_alloc ?_ _)); exact BK101.out) hb); have n1_ := Aside0.mk (below_step (by repeat (first | (with_reducible first | exact HB.out | apply below_alloc | apply pw_below_drewN | apply below_drew1 | refine below_set ?_ GE101.out) | exact HB.out)) hb); have n2_ := Aside0.mk (hbox); have n3_ := Aside0.mk ((by rw [hg]; exact (below_size (by repeat (first | (with_reducible first | exact HB.out | apply below_alloc | apply pw_below_drewN | apply below_drew1 | refine below_set ?_ GE101.out) | exact HB.out))) : w.heap.size ≤ gb102)); have n4_ := Aside0.mk ((by rw [hg]; exact (below_size (by repeat (first | (with_reducible first | exact HB.out | apply below_alloc | apply pw_below_drewN | apply below_drew1 | refine below_set ?_ GE101.out) | exact HB.out))) : w.heap.size ≤ gb102)); have n5_ := Aside0.mk ((by rw [hg]; exact Nat.ne_of_lt (blk_lt (g := gb101) (o := .cells #[.int .i64 a0_0, .int .i64 a0_1, .bool a0_2] 63 (0, 0)) (by (with_reducible repeat (first | refine blk_drewN ?_ _ | refine blk_drew ?_ | refine blk_alloc ?_ _)); exact BK101.out)) : gb101 ≠ gb102)); have n6_ := Aside0.mk ((by rw [hg]; exact Nat.ne_of_gt (blk_lt (g := gb101) (o := .cells #[.int .i64 a0_0, .int .i64 a0_1, .bool a0_2] 63 (0, 0)) (by (with_reducible repeat (first | refine blk_drewN ?_ _ | refine blk_drew ?_ | refine blk_alloc ?_ _)); exact BK101.out)) : gb102 ≠ gb101)); clear BK101; clear HB; have BK101 := n0_; have HB := n1_; have BK102 := n2_; have GW102 := n3_; have GE102 := n4_; have NB101_102 := n5_; have NB102_101 := n6_; clear n0_ n1_ n2_ n3_ n4_ n5_ n6_; clear hb hbox hg) | ((with_reducible refine gate_dst (N := 4) rfl ?_); refine box_event ?hg (N := 4) ?hd (cs := #[.int .i64 0, .int .i64 0, .string (⟨#[]⟩ : ByteArray)]) (t := 35) ?hr ?_; (case hd => rfl); (case hg => rfl); (case hr => first | (go_simp; done) | (go_simp; rfl)); intro gb103 hg w6 hbox hb; have n0_ := Aside0.mk (blk_below (g := gb101) (o := .cells #[.int .i64 a0_0, .int .i64 a0_1, .bool a0_2] 63 (0, 0)) (by (with_reducible repeat (first | refine blk_drewN ?_ _ | refine blk_drew ?_ | refine blk_alloc ?_ _)); exact BK101.out) hb); have n1_ := Aside0.mk (blk_below (g := gb102) (o := .cells #[.int .u8 a1_0, .int .u8 a1_1] 70 (0, 0)) (by (with_reducible repeat (first | refine blk_drewN ?_ _ | refine blk_drew ?_ | refine blk_alloc ?_ _)); exact BK102.out) hb); have n2_ := Aside0.mk (below_step (by repeat (first | (with_reducible first | exact HB.out | apply below_alloc | apply pw_below_drewN | apply below_drew1 | refine below_set ?_ GE101.out | refine below_set ?_ GE102.out) | exact HB.out)) hb); have n3_ := Aside0.mk (hbox); have n4_ := Aside0.mk ((by rw [hg]; exact (below_size (by repeat (first | (with_reducible first | exact HB.out | apply below_alloc | apply pw_below_drewN | apply below_drew1 | refine below_set ?_ GE101.out | refine below_set ?_ GE102.out) | exact HB.out))) : w.heap.size ≤ gb103)); have n5_ := Aside0.mk ((by rw [hg]; exact (below_size (by repeat (first | (with_reducible first | exact HB.out | apply below_alloc | apply pw_below_drewN | apply below_drew1 | refine below_set ?_ GE101.out | refine below_set ?_ GE102.out) | exact HB.out))) : w.heap.size ≤ gb103)); have n6_ := Aside0.mk ((by rw [hg]; exact Nat.ne_of_lt (blk_lt (g := gb101) (o := .cells #[.int .i64 a0_0, .int .i64 a0_1, .bool a0_2] 63 (0, 0)) (by (with_reducible repeat (first | refine blk_drewN ?_ _ | refine blk_drew ?_ | refine blk_alloc ?_ _)); exact BK101.out)) : gb101 ≠ gb103)); have n7_ := Aside0.mk ((by rw [hg]; exact Nat.ne_of_gt (blk_lt (g := gb101) (o := .cells #[.int .i64 a0_0, .int .i64 a0_1, .bool a0_2] 63 (0, 0)) (by (with_reducible repeat (first | refine blk_drewN ?_ _ | refine blk_drew ?_ | refine blk_alloc ?_ _)); exact BK101.out)) : gb103 ≠ gb101)); have n8_ := Aside0.mk ((by rw [hg]; exact Nat.ne_of_lt (blk_lt (g := gb102) (o := .cells #[.int .u8 a1_0, .int .u8 a1_1] 70 (0, 0)) (by (with_reducible repeat (first | refine blk_drewN ?_ _ | refine blk_drew ?_ | refine blk_alloc ?_ _)); exact BK102.out)) : gb102 ≠ gb103)); have n9_ := Aside0.mk ((by rw [hg]; exact Nat.ne_of_gt (blk_lt (g := gb102) (o := .cells #[.int .u8 a1_0, .int .u8 a1_1] 70 (0, 0)) (by (with_reducible repeat (first | refine blk_drewN ?_ _ | refine blk_drew ?_ | refine blk_alloc ?_ _)); exact BK102.out)) : gb103 ≠ gb102)); clear BK101; clear BK102; clear HB; have BK101 := n0_; have BK102 := n1_; have HB := n2_; have BK103 := n3_; have GW103 := n4_; have GE103 := n5_; have NB101_103 := n6_; have NB103_101 := n7_; have NB102_103 := n8_; have NB103_102 := n9_; clear n0_ n1_ n2_ n3_ n4_ n5_ n6_ n7_ n8_ n9_; clear hb hbox hg))
  (try simp only [Act.put, List.setIfInBounds_toArray, List.set_cons_zero, List.set_cons_succ])
  go_cut [13] (fun v13 wc => ∃ (kq : Nat) (x13_2 : Bool), v13 = .bool x13_2 ∧ Aside0 (chapmanref06_Value.j0 kq x13_2 a0_0 a0_1 a0_2 a1_0 a1_1 = some (r1, r2, r3)) ∧ Aside0 (kq ≤ k) ∧ Aside0 (wc.heap[gb101]? = some (.cells #[.int .i64 a0_0, .int .i64 a0_1, .bool a0_2] 63 (0, 0))) ∧ Aside0 (wc.heap[gb102]? = some (.cells #[.int .u8 a1_0, .int .u8 a1_1] 70 (0, 0))) ∧ Aside0 (wc.heap[gb103]? = some (.cells #[.int .i64 0, .int .i64 0, .string (⟨#[]⟩ : ByteArray)] 35 (0, 0))) ∧ Aside0 (Below w.heap.size w wc))
  case first =>
    have H := HC3.out
    clear HC3
    by_cases c7 : a0_2 = true
    · subst c7
      have H1 : (chapmanref06_Value.j0 k ((Int.tmod a1_0 5) == 0) a0_0 a0_1 true a1_0 a1_1) = some (r1, r2, r3) := by rw [if_pos rfl] at H; exact H
      clear H
      have H := H1
      clear H1
      have H' := Aside0.mk H
      clear H
      have hnb8 := NB101_102.out
      have hnc8 := NB102_101.out
      have hnb9 := NB101_103.out
      have hnc9 := NB103_101.out
      have hcz10_0 : w6.cell? ⟨gb101, 0, none⟩ = some (.int .i64 a0_0) := (blk_cell BK101.out 0).trans rfl
      have hcz10_1 : w6.cell? ⟨gb101, 1, none⟩ = some (.int .i64 a0_1) := (blk_cell BK101.out 1).trans rfl
      have hcz10_2 : w6.cell? ⟨gb101, 2, none⟩ = some (.bool true) := (blk_cell BK101.out 2).trans rfl
      have hfz10_0 := blk_frozen BK101.out 0
      have hfz10_1 := blk_frozen BK101.out 1
      have hfz10_2 := blk_frozen BK101.out 2
      have hnb11 := NB102_103.out
      have hnc11 := NB103_102.out
      have hcz12_0 : w6.cell? ⟨gb102, 0, none⟩ = some (.int .u8 a1_0) := (blk_cell BK102.out 0).trans rfl
      have hcz12_1 : w6.cell? ⟨gb102, 1, none⟩ = some (.int .u8 a1_1) := (blk_cell BK102.out 1).trans rfl
      have hfz12_0 := blk_frozen BK102.out 0
      have hfz12_1 := blk_frozen BK102.out 1
      go_wp2
      go_meet
      case rel => exact ⟨_, (((Int.tmod a1_0 5) == 0)), (by first | rfl | (simp; done) | (simp [*]; done)), H', ⟨by first | omega | exact Nat.le_refl _⟩, ⟨by (with_reducible repeat (first | refine blk_drewN ?_ _ | refine blk_drew ?_ | refine blk_alloc ?_ _)); exact BK101.out⟩, ⟨by (with_reducible repeat (first | refine blk_drewN ?_ _ | refine blk_drew ?_ | refine blk_alloc ?_ _)); exact BK102.out⟩, ⟨by (with_reducible repeat (first | refine blk_drewN ?_ _ | refine blk_drew ?_ | refine blk_alloc ?_ _)); exact BK103.out⟩, ⟨by repeat (first | (with_reducible first | exact HB.out | apply below_alloc | apply pw_below_drewN | apply below_drew1 | refine below_set ?_ GE101.out | refine below_set ?_ GE102.out | refine below_set ?_ GE103.out) | exact HB.out)⟩⟩
    · replace c7 := Bool.eq_false_iff.mpr c7
      subst c7
      have H1 : (chapmanref06_Value.j0 k false a0_0 a0_1 false a1_0 a1_1) = some (r1, r2, r3) := by rw [if_neg (show ¬ (false = true) by decide)] at H; exact H
      clear H
      have H := H1
      clear H1
      have H' := Aside0.mk H
      clear H
      have hnb13 := NB101_102.out
      have hnc13 := NB102_101.out
      have hnb14 := NB101_103.out
      have hnc14 := NB103_101.out
      have hcz15_0 : w6.cell? ⟨gb101, 0, none⟩ = some (.int .i64 a0_0) := (blk_cell BK101.out 0).trans rfl
      have hcz15_1 : w6.cell? ⟨gb101, 1, none⟩ = some (.int .i64 a0_1) := (blk_cell BK101.out 1).trans rfl
      have hcz15_2 : w6.cell? ⟨gb101, 2, none⟩ = some (.bool false) := (blk_cell BK101.out 2).trans rfl
      have hfz15_0 := blk_frozen BK101.out 0
      have hfz15_1 := blk_frozen BK101.out 1
      have hfz15_2 := blk_frozen BK101.out 2
      go_wp2
      go_meet
      case rel => exact ⟨_, (false), (by first | rfl | (simp; done) | (simp [*]; done)), H', ⟨by first | omega | exact Nat.le_refl _⟩, ⟨by (with_reducible repeat (first | refine blk_drewN ?_ _ | refine blk_drew ?_ | refine blk_alloc ?_ _)); exact BK101.out⟩, ⟨by (with_reducible repeat (first | refine blk_drewN ?_ _ | refine blk_drew ?_ | refine blk_alloc ?_ _)); exact BK102.out⟩, ⟨by (with_reducible repeat (first | refine blk_drewN ?_ _ | refine blk_drew ?_ | refine blk_alloc ?_ _)); exact BK103.out⟩, ⟨by repeat (first | (with_reducible first | exact HB.out | apply below_alloc | apply pw_below_drewN | apply below_drew1 | refine below_set ?_ GE101.out | refine below_set ?_ GE102.out | refine below_set ?_ GE103.out) | exact HB.out)⟩⟩
  case rest =>
    clear HC3
    try clear c1
    try clear p2
    try clear c3
    try clear c7
    try clear c8
    try clear c9
    try clear c11
    try clear c13
    try clear c14
    try clear hcz10_0
    try clear hcz10_1
    try clear hcz10_2
    try clear hcz12_0
    try clear hcz12_1
    try clear hcz15_0
    try clear hcz15_1
    try clear hcz15_2
    try clear hfz10_0
    try clear hfz10_1
    try clear hfz10_2
    try clear hfz12_0
    try clear hfz12_1
    try clear hfz15_0
    try clear hfz15_1
    try clear hfz15_2
    obtain ⟨kq, x13_2, rfl, HA, HJ2, BK101, BK102, BK103, HB⟩ := hcut
    cases kq with
    | zero => exact absurd HA.out (by simp [chapmanref06_Value.j0])
    | succ kj2 =>
      have H := HA.out
      clear HA
      simp only [chapmanref06_Value.j0] at H
      by_cases c16 : x13_2 = true
      · subst c16
        have H1 : ((chapmanref06_Null.f).bind fun bt104 => (some (bt104.1, bt104.2.1, bt104.2.2))) = some (r1, r2, r3) := by rw [if_pos rfl] at H; exact H
        clear H
        have H := H1
        clear H1
        replace H := Option.bind_eq_some_iff.mp H
        obtain ⟨⟨t104, t105, t106⟩, A170, H⟩ := H
        replace H : (some (t104, t105, t106)) = some (r1, r2, r3) := H
        have A17 := Aside0.mk A170
        clear A170
        simp only [Option.some.injEq, Prod.mk.injEq] at H
        obtain ⟨rfl, rfl, rfl⟩ := H
        go_wp2_with (first | ((with_reducible refine gate_callee (f := 15) rfl ?_); refine goesL_ (some 14) rfl rfl Tryz.func15 (by kernel_rfl) rfl #[] rfl (by (try simp only [List.map_toArray, List.map_cons, List.map_nil]); first | done | rfl | (simp only [List.length_drop, List.length_take]; rfl)) ?_; (with_reducible refine (chapmanref06_Null.calls  t104 t105 t106 _ A17.out).mono ?_); rintro e w18 ⟨rfl, hb⟩; refine ⟨_, rfl, ?_⟩; have n0_ := Aside0.mk (blk_below (g := gb101) (o := .cells #[.int .i64 a0_0, .int .i64 a0_1, .bool a0_2] 63 (0, 0)) (by (with_reducible repeat (first | refine blk_drewN ?_ _ | refine blk_drew ?_ | refine blk_alloc ?_ _)); exact BK101.out) hb); have n1_ := Aside0.mk (blk_below (g := gb102) (o := .cells #[.int .u8 a1_0, .int .u8 a1_1] 70 (0, 0)) (by (with_reducible repeat (first | refine blk_drewN ?_ _ | refine blk_drew ?_ | refine blk_alloc ?_ _)); exact BK102.out) hb); have n2_ := Aside0.mk (blk_below (g := gb103) (o := .cells #[.int .i64 0, .int .i64 0, .string (⟨#[]⟩ : ByteArray)] 35 (0, 0)) (by (with_reducible repeat (first | refine blk_drewN ?_ _ | refine blk_drew ?_ | refine blk_alloc ?_ _)); exact BK103.out) hb); have n3_ := Aside0.mk (below_step (by repeat (first | (with_reducible first | exact HB.out | apply below_alloc | apply pw_below_drewN | apply below_drew1 | refine below_set ?_ GE101.out | refine below_set ?_ GE102.out | refine below_set ?_ GE103.out) | exact HB.out)) hb); clear BK101; clear BK102; clear BK103; clear HB; have BK101 := n0_; have BK102 := n1_; have BK103 := n2_; have HB := n3_; clear n0_ n1_ n2_ n3_; (try clear hb); (try clear hb2); (try clear hk); (try clear hi); have hnb19 := NB103_101.out; have hnc19 := NB101_103.out; have hnb20 := NB103_102.out; have hnc20 := NB102_103.out; have hcz21_0 : w18.cell? ⟨gb103, 0, none⟩ = some (.int .i64 0) := (blk_cell BK103.out 0).trans rfl; have hcz21_1 : w18.cell? ⟨gb103, 1, none⟩ = some (.int .i64 0) := (blk_cell BK103.out 1).trans rfl; have hcz21_2 : w18.cell? ⟨gb103, 2, none⟩ = some (.string (⟨#[]⟩ : ByteArray)) := (blk_cell BK103.out 2).trans rfl; have hfz21_0 := blk_frozen BK103.out 0; have hfz21_1 := blk_frozen BK103.out 1; have hfz21_2 := blk_frozen BK103.out 2))
        refine bodyPost_ret (results_cell_row rfl _ _ gb103 35 #[.int .i64 t104, .int .i64 t105, .string t106] (0, 0) _ rfl (by (with_reducible repeat (first | refine blk_drewN ?_ _ | refine blk_drew ?_ | refine blk_alloc ?_ _)); refine blk_put (cs := #[.int .i64 t104, .int .i64 t105, .string (⟨#[]⟩ : ByteArray)]) ?_ 2 _ rfl; (with_reducible repeat (first | refine blk_drewN ?_ _ | refine blk_drew ?_ | refine blk_alloc ?_ _)); refine blk_put (cs := #[.int .i64 t104, .int .i64 0, .string (⟨#[]⟩ : ByteArray)]) ?_ 1 _ rfl; (with_reducible repeat (first | refine blk_drewN ?_ _ | refine blk_drew ?_ | refine blk_alloc ?_ _)); refine blk_put (cs := #[.int .i64 0, .int .i64 0, .string (⟨#[]⟩ : ByteArray)]) ?_ 0 _ rfl; (with_reducible repeat (first | refine blk_drewN ?_ _ | refine blk_drew ?_ | refine blk_alloc ?_ _)); exact BK103.out) Tryz.underlying35 rfl (by kernel_rfl)) rfl ?_
        exact ⟨by first | rfl | (simp [errW_none, errW_some] <;> rfl) | (simp [*, errW_none, errW_some] <;> rfl), by repeat (first | (with_reducible first | exact HB.out | apply below_alloc | apply pw_below_drewN | apply below_drew1 | refine below_set ?_ GE101.out | refine below_set ?_ GE102.out | refine below_set ?_ GE103.out) | exact HB.out)⟩
      · replace c16 := Bool.eq_false_iff.mpr c16
        subst c16
        have H1 : (if a0_0 = 1 then ((chapmanref06_Bool.f ((Int.tmod a1_1 2) == 1)).bind fun bt107 => (some (bt107.1, bt107.2.1, bt107.2.2))) else (if a0_0 = 2 then (if (Int.tmod a1_0 4) = 1 then ((chapmanref06_Step.f kj2 a0_1).bind fun t110 => ((chapmanref06_Num.f (wrap64 ((wrap64 ((wrap64 (Int.tmod a1_1 40)) - 12)) * t110))).bind fun bt111 => (some (bt111.1, bt111.2.1, bt111.2.2)))) else ((chapmanref06_Whole.f (wrap64 ((wrap64 (Int.tmod a1_1 40)) - 12))).bind fun bt114 => (some (bt114.1, bt114.2.1, bt114.2.2)))) else ((chapmanref06_words.f (wrap64 (a1_1))).bind fun t117 => ((chapmanref06_Str.f t117).bind fun bt118 => (some (bt118.1, bt118.2.1, bt118.2.2)))))) = some (r1, r2, r3) := by rw [if_neg (show ¬ (false = true) by decide)] at H; exact H
        clear H
        have H := H1
        clear H1
        by_cases c22 : a0_0 = 1
        · rw [if_pos c22] at H
          have c22b0 : (a0_0 == 1) = true := beq_iff_eq.mpr c22
          have c22b1 : (a0_0 != 1) = false := bne_eq_false_iff_eq.mpr c22
          clear c22
          replace H := Option.bind_eq_some_iff.mp H
          obtain ⟨⟨t107, t108, t109⟩, A230, H⟩ := H
          replace H : (some (t107, t108, t109)) = some (r1, r2, r3) := H
          have A23 := Aside0.mk A230
          clear A230
          simp only [Option.some.injEq, Prod.mk.injEq] at H
          obtain ⟨rfl, rfl, rfl⟩ := H
          have hnb24 := NB101_102.out
          have hnc24 := NB102_101.out
          have hnb25 := NB101_103.out
          have hnc25 := NB103_101.out
          have hcz26_0 : wc.cell? ⟨gb101, 0, none⟩ = some (.int .i64 a0_0) := (blk_cell BK101.out 0).trans rfl
          have hcz26_1 : wc.cell? ⟨gb101, 1, none⟩ = some (.int .i64 a0_1) := (blk_cell BK101.out 1).trans rfl
          have hcz26_2 : wc.cell? ⟨gb101, 2, none⟩ = some (.bool a0_2) := (blk_cell BK101.out 2).trans rfl
          have hfz26_0 := blk_frozen BK101.out 0
          have hfz26_1 := blk_frozen BK101.out 1
          have hfz26_2 := blk_frozen BK101.out 2
          have hnb27 := NB102_103.out
          have hnc27 := NB103_102.out
          have hcz28_0 : wc.cell? ⟨gb102, 0, none⟩ = some (.int .u8 a1_0) := (blk_cell BK102.out 0).trans rfl
          have hcz28_1 : wc.cell? ⟨gb102, 1, none⟩ = some (.int .u8 a1_1) := (blk_cell BK102.out 1).trans rfl
          have hfz28_0 := blk_frozen BK102.out 0
          have hfz28_1 := blk_frozen BK102.out 1
          go_wp2_with (first | ((with_reducible refine gate_callee (f := 61) rfl ?_); refine goesL_ (some 23) rfl rfl Tryz.func61 (by kernel_rfl) rfl #[.bool ((Int.tmod a1_1 2) == 1)] rfl (by (try simp only [List.map_toArray, List.map_cons, List.map_nil]); first | done | rfl | (simp only [List.length_drop, List.length_take]; rfl)) ?_; (with_reducible refine (chapmanref06_Bool.calls ((Int.tmod a1_1 2) == 1) t107 t108 t109 _ A23.out).mono ?_); rintro e w29 ⟨rfl, hb⟩; refine ⟨_, rfl, ?_⟩; have n0_ := Aside0.mk (blk_below (g := gb101) (o := .cells #[.int .i64 a0_0, .int .i64 a0_1, .bool a0_2] 63 (0, 0)) (by (with_reducible repeat (first | refine blk_drewN ?_ _ | refine blk_drew ?_ | refine blk_alloc ?_ _)); exact BK101.out) hb); have n1_ := Aside0.mk (blk_below (g := gb102) (o := .cells #[.int .u8 a1_0, .int .u8 a1_1] 70 (0, 0)) (by (with_reducible repeat (first | refine blk_drewN ?_ _ | refine blk_drew ?_ | refine blk_alloc ?_ _)); exact BK102.out) hb); have n2_ := Aside0.mk (blk_below (g := gb103) (o := .cells #[.int .i64 0, .int .i64 0, .string (⟨#[]⟩ : ByteArray)] 35 (0, 0)) (by (with_reducible repeat (first | refine blk_drewN ?_ _ | refine blk_drew ?_ | refine blk_alloc ?_ _)); exact BK103.out) hb); have n3_ := Aside0.mk (below_step (by repeat (first | (with_reducible first | exact HB.out | apply below_alloc | apply pw_below_drewN | apply below_drew1 | refine below_set ?_ GE101.out | refine below_set ?_ GE102.out | refine below_set ?_ GE103.out) | exact HB.out)) hb); clear BK101; clear BK102; clear BK103; clear HB; have BK101 := n0_; have BK102 := n1_; have BK103 := n2_; have HB := n3_; clear n0_ n1_ n2_ n3_; (try clear hb); (try clear hb2); (try clear hk); (try clear hi); have hcz30_0 : w29.cell? ⟨gb103, 0, none⟩ = some (.int .i64 0) := (blk_cell BK103.out 0).trans rfl; have hcz30_1 : w29.cell? ⟨gb103, 1, none⟩ = some (.int .i64 0) := (blk_cell BK103.out 1).trans rfl; have hcz30_2 : w29.cell? ⟨gb103, 2, none⟩ = some (.string (⟨#[]⟩ : ByteArray)) := (blk_cell BK103.out 2).trans rfl; have hfz30_0 := blk_frozen BK103.out 0; have hfz30_1 := blk_frozen BK103.out 1; have hfz30_2 := blk_frozen BK103.out 2))
          refine bodyPost_ret (results_cell_row rfl _ _ gb103 35 #[.int .i64 t107, .int .i64 t108, .string t109] (0, 0) _ rfl (by (with_reducible repeat (first | refine blk_drewN ?_ _ | refine blk_drew ?_ | refine blk_alloc ?_ _)); refine blk_put (cs := #[.int .i64 t107, .int .i64 t108, .string (⟨#[]⟩ : ByteArray)]) ?_ 2 _ rfl; (with_reducible repeat (first | refine blk_drewN ?_ _ | refine blk_drew ?_ | refine blk_alloc ?_ _)); refine blk_put (cs := #[.int .i64 t107, .int .i64 0, .string (⟨#[]⟩ : ByteArray)]) ?_ 1 _ rfl; (with_reducible repeat (first | refine blk_drewN ?_ _ | refine blk_drew ?_ | refine blk_alloc ?_ _)); refine blk_put (cs := #[.int .i64 0, .int .i64 0, .string (⟨#[]⟩ : ByteArray)]) ?_ 0 _ rfl; (with_reducible repeat (first | refine blk_drewN ?_ _ | refine blk_drew ?_ | refine blk_alloc ?_ _)); exact BK103.out) Tryz.underlying35 rfl (by kernel_rfl)) rfl ?_
          exact ⟨by first | rfl | (simp [errW_none, errW_some] <;> rfl) | (simp [*, errW_none, errW_some] <;> rfl), by repeat (first | (with_reducible first | exact HB.out | apply below_alloc | apply pw_below_drewN | apply below_drew1 | refine below_set ?_ GE101.out | refine below_set ?_ GE102.out | refine below_set ?_ GE103.out) | exact HB.out)⟩
        · rw [if_neg c22] at H
          have c22b0 : (a0_0 == 1) = false := beq_eq_false_iff_ne.mpr c22
          have c22b1 : (a0_0 != 1) = true := bne_iff_ne.mpr c22
          by_cases c31 : a0_0 = 2
          · rw [if_pos c31] at H
            have c31b0 : (a0_0 == 2) = true := beq_iff_eq.mpr c31
            have c31b1 : (a0_0 != 2) = false := bne_eq_false_iff_eq.mpr c31
            clear c31
            by_cases c32 : (Int.tmod a1_0 4) = 1
            · rw [if_pos c32] at H
              have c32b0 : ((Int.tmod a1_0 4) == 1) = true := beq_iff_eq.mpr c32
              have c32b1 : ((Int.tmod a1_0 4) != 1) = false := bne_eq_false_iff_eq.mpr c32
              clear c32
              replace H := Option.bind_eq_some_iff.mp H
              obtain ⟨t110, A330, H⟩ := H
              replace H : ((chapmanref06_Num.f (wrap64 ((wrap64 ((wrap64 (Int.tmod a1_1 40)) - 12)) * t110))).bind fun bt111 => (some (bt111.1, bt111.2.1, bt111.2.2))) = some (r1, r2, r3) := H
              have A33 := Aside0.mk A330
              clear A330
              replace H := Option.bind_eq_some_iff.mp H
              obtain ⟨⟨t111, t112, t113⟩, A340, H⟩ := H
              replace H : (some (t111, t112, t113)) = some (r1, r2, r3) := H
              have A34 := Aside0.mk A340
              clear A340
              simp only [Option.some.injEq, Prod.mk.injEq] at H
              obtain ⟨rfl, rfl, rfl⟩ := H
              have hnb35 := NB101_102.out
              have hnc35 := NB102_101.out
              have hnb36 := NB101_103.out
              have hnc36 := NB103_101.out
              have hcz37_0 : wc.cell? ⟨gb101, 0, none⟩ = some (.int .i64 a0_0) := (blk_cell BK101.out 0).trans rfl
              have hcz37_1 : wc.cell? ⟨gb101, 1, none⟩ = some (.int .i64 a0_1) := (blk_cell BK101.out 1).trans rfl
              have hcz37_2 : wc.cell? ⟨gb101, 2, none⟩ = some (.bool a0_2) := (blk_cell BK101.out 2).trans rfl
              have hfz37_0 := blk_frozen BK101.out 0
              have hfz37_1 := blk_frozen BK101.out 1
              have hfz37_2 := blk_frozen BK101.out 2
              have hnb38 := NB102_103.out
              have hnc38 := NB103_102.out
              have hcz39_0 : wc.cell? ⟨gb102, 0, none⟩ = some (.int .u8 a1_0) := (blk_cell BK102.out 0).trans rfl
              have hcz39_1 : wc.cell? ⟨gb102, 1, none⟩ = some (.int .u8 a1_1) := (blk_cell BK102.out 1).trans rfl
              have hfz39_0 := blk_frozen BK102.out 0
              have hfz39_1 := blk_frozen BK102.out 1
              go_wp2_with (first | ((with_reducible refine gate_callee (f := 62) rfl ?_); refine goesL_ (some 38) rfl rfl Tryz.func62 (by kernel_rfl) rfl #[.int .i64 a0_1] rfl (by (try simp only [List.map_toArray, List.map_cons, List.map_nil]); first | done | rfl | (simp only [List.length_drop, List.length_take]; rfl)) ?_; (with_reducible refine (chapmanref06_Step.calls kj2 a0_1 t110 _ A33.out).mono ?_); rintro e w' ⟨rfl, ⟨nd, rfl⟩⟩; refine ⟨_, rfl, ?_⟩; (try (rw [drewN_self wc]; generalize hq_ : World.drewN wc _ = wc; have n0_ : Aside0 (wc.heap[gb101]? = some (.cells #[.int .i64 a0_0, .int .i64 a0_1, .bool a0_2] 63 (0, 0))) := ⟨by rw [← hq_]; exact (by (with_reducible repeat (first | refine blk_drewN ?_ _ | refine blk_drew ?_ | refine blk_alloc ?_ _)); exact BK101.out)⟩; have n1_ : Aside0 (wc.heap[gb102]? = some (.cells #[.int .u8 a1_0, .int .u8 a1_1] 70 (0, 0))) := ⟨by rw [← hq_]; exact (by (with_reducible repeat (first | refine blk_drewN ?_ _ | refine blk_drew ?_ | refine blk_alloc ?_ _)); exact BK102.out)⟩; have n2_ : Aside0 (wc.heap[gb103]? = some (.cells #[.int .i64 0, .int .i64 0, .string (⟨#[]⟩ : ByteArray)] 35 (0, 0))) := ⟨by rw [← hq_]; exact (by (with_reducible repeat (first | refine blk_drewN ?_ _ | refine blk_drew ?_ | refine blk_alloc ?_ _)); exact BK103.out)⟩; have n3_ : Aside0 (Below w.heap.size w wc) := ⟨by rw [← hq_]; exact (by repeat (first | (with_reducible first | exact HB.out | apply below_alloc | apply pw_below_drewN | apply below_drew1 | refine below_set ?_ GE101.out | refine below_set ?_ GE102.out | refine below_set ?_ GE103.out) | exact HB.out))⟩; clear BK101 BK102 BK103 HB hq_; have BK101 := n0_; have BK102 := n1_; have BK103 := n2_; have HB := n3_; clear n0_ n1_ n2_ n3_))) | ((with_reducible refine gate_callee (f := 37) rfl ?_); refine goesL_ (some 40) rfl rfl Tryz.func37 (by kernel_rfl) rfl #[.int .i64 (wrap64 ((wrap64 ((wrap64 (Int.tmod a1_1 40)) - 12)) * t110))] rfl (by (try simp only [List.map_toArray, List.map_cons, List.map_nil]); first | done | rfl | (simp only [List.length_drop, List.length_take]; rfl)) ?_; (with_reducible refine (chapmanref06_Num.calls (wrap64 ((wrap64 ((wrap64 (Int.tmod a1_1 40)) - 12)) * t110)) t111 t112 t113 _ A34.out).mono ?_); rintro e w40 ⟨rfl, hb⟩; refine ⟨_, rfl, ?_⟩; have n0_ := Aside0.mk (blk_below (g := gb101) (o := .cells #[.int .i64 a0_0, .int .i64 a0_1, .bool a0_2] 63 (0, 0)) (by (with_reducible repeat (first | refine blk_drewN ?_ _ | refine blk_drew ?_ | refine blk_alloc ?_ _)); exact BK101.out) hb); have n1_ := Aside0.mk (blk_below (g := gb102) (o := .cells #[.int .u8 a1_0, .int .u8 a1_1] 70 (0, 0)) (by (with_reducible repeat (first | refine blk_drewN ?_ _ | refine blk_drew ?_ | refine blk_alloc ?_ _)); exact BK102.out) hb); have n2_ := Aside0.mk (blk_below (g := gb103) (o := .cells #[.int .i64 0, .int .i64 0, .string (⟨#[]⟩ : ByteArray)] 35 (0, 0)) (by (with_reducible repeat (first | refine blk_drewN ?_ _ | refine blk_drew ?_ | refine blk_alloc ?_ _)); exact BK103.out) hb); have n3_ := Aside0.mk (below_step (by repeat (first | (with_reducible first | exact HB.out | apply below_alloc | apply pw_below_drewN | apply below_drew1 | refine below_set ?_ GE101.out | refine below_set ?_ GE102.out | refine below_set ?_ GE103.out) | exact HB.out)) hb); clear BK101; clear BK102; clear BK103; clear HB; have BK101 := n0_; have BK102 := n1_; have BK103 := n2_; have HB := n3_; clear n0_ n1_ n2_ n3_; (try clear hb); (try clear hb2); (try clear hk); (try clear hi); have hcz41_0 : w40.cell? ⟨gb103, 0, none⟩ = some (.int .i64 0) := (blk_cell BK103.out 0).trans rfl; have hcz41_1 : w40.cell? ⟨gb103, 1, none⟩ = some (.int .i64 0) := (blk_cell BK103.out 1).trans rfl; have hcz41_2 : w40.cell? ⟨gb103, 2, none⟩ = some (.string (⟨#[]⟩ : ByteArray)) := (blk_cell BK103.out 2).trans rfl; have hfz41_0 := blk_frozen BK103.out 0; have hfz41_1 := blk_frozen BK103.out 1; have hfz41_2 := blk_frozen BK103.out 2))
              refine bodyPost_ret (results_cell_row rfl _ _ gb103 35 #[.int .i64 t111, .int .i64 t112, .string t113] (0, 0) _ rfl (by (with_reducible repeat (first | refine blk_drewN ?_ _ | refine blk_drew ?_ | refine blk_alloc ?_ _)); refine blk_put (cs := #[.int .i64 t111, .int .i64 t112, .string (⟨#[]⟩ : ByteArray)]) ?_ 2 _ rfl; (with_reducible repeat (first | refine blk_drewN ?_ _ | refine blk_drew ?_ | refine blk_alloc ?_ _)); refine blk_put (cs := #[.int .i64 t111, .int .i64 0, .string (⟨#[]⟩ : ByteArray)]) ?_ 1 _ rfl; (with_reducible repeat (first | refine blk_drewN ?_ _ | refine blk_drew ?_ | refine blk_alloc ?_ _)); refine blk_put (cs := #[.int .i64 0, .int .i64 0, .string (⟨#[]⟩ : ByteArray)]) ?_ 0 _ rfl; (with_reducible repeat (first | refine blk_drewN ?_ _ | refine blk_drew ?_ | refine blk_alloc ?_ _)); exact BK103.out) Tryz.underlying35 rfl (by kernel_rfl)) rfl ?_
              exact ⟨by first | rfl | (simp [errW_none, errW_some] <;> rfl) | (simp [*, errW_none, errW_some] <;> rfl), by repeat (first | (with_reducible first | exact HB.out | apply below_alloc | apply pw_below_drewN | apply below_drew1 | refine below_set ?_ GE101.out | refine below_set ?_ GE102.out | refine below_set ?_ GE103.out) | exact HB.out)⟩
            · rw [if_neg c32] at H
              have c32b0 : ((Int.tmod a1_0 4) == 1) = false := beq_eq_false_iff_ne.mpr c32
              have c32b1 : ((Int.tmod a1_0 4) != 1) = true := bne_iff_ne.mpr c32
              replace H := Option.bind_eq_some_iff.mp H
              obtain ⟨⟨t114, t115, t116⟩, A420, H⟩ := H
              replace H : (some (t114, t115, t116)) = some (r1, r2, r3) := H
              have A42 := Aside0.mk A420
              clear A420
              simp only [Option.some.injEq, Prod.mk.injEq] at H
              obtain ⟨rfl, rfl, rfl⟩ := H
              have hnb43 := NB101_102.out
              have hnc43 := NB102_101.out
              have hnb44 := NB101_103.out
              have hnc44 := NB103_101.out
              have hcz45_0 : wc.cell? ⟨gb101, 0, none⟩ = some (.int .i64 a0_0) := (blk_cell BK101.out 0).trans rfl
              have hcz45_1 : wc.cell? ⟨gb101, 1, none⟩ = some (.int .i64 a0_1) := (blk_cell BK101.out 1).trans rfl
              have hcz45_2 : wc.cell? ⟨gb101, 2, none⟩ = some (.bool a0_2) := (blk_cell BK101.out 2).trans rfl
              have hfz45_0 := blk_frozen BK101.out 0
              have hfz45_1 := blk_frozen BK101.out 1
              have hfz45_2 := blk_frozen BK101.out 2
              have hnb46 := NB102_103.out
              have hnc46 := NB103_102.out
              have hcz47_0 : wc.cell? ⟨gb102, 0, none⟩ = some (.int .u8 a1_0) := (blk_cell BK102.out 0).trans rfl
              have hcz47_1 : wc.cell? ⟨gb102, 1, none⟩ = some (.int .u8 a1_1) := (blk_cell BK102.out 1).trans rfl
              have hfz47_0 := blk_frozen BK102.out 0
              have hfz47_1 := blk_frozen BK102.out 1
              go_wp2_with (first | ((with_reducible refine gate_callee (f := 16) rfl ?_); refine goesL_ (some 42) rfl rfl Tryz.func16 (by kernel_rfl) rfl #[.int .i64 (wrap64 ((wrap64 (Int.tmod a1_1 40)) - 12))] rfl (by (try simp only [List.map_toArray, List.map_cons, List.map_nil]); first | done | rfl | (simp only [List.length_drop, List.length_take]; rfl)) ?_; (with_reducible refine (chapmanref06_Whole.calls (wrap64 ((wrap64 (Int.tmod a1_1 40)) - 12)) t114 t115 t116 _ A42.out).mono ?_); rintro e w48 ⟨rfl, hb⟩; refine ⟨_, rfl, ?_⟩; have n0_ := Aside0.mk (blk_below (g := gb101) (o := .cells #[.int .i64 a0_0, .int .i64 a0_1, .bool a0_2] 63 (0, 0)) (by (with_reducible repeat (first | refine blk_drewN ?_ _ | refine blk_drew ?_ | refine blk_alloc ?_ _)); exact BK101.out) hb); have n1_ := Aside0.mk (blk_below (g := gb102) (o := .cells #[.int .u8 a1_0, .int .u8 a1_1] 70 (0, 0)) (by (with_reducible repeat (first | refine blk_drewN ?_ _ | refine blk_drew ?_ | refine blk_alloc ?_ _)); exact BK102.out) hb); have n2_ := Aside0.mk (blk_below (g := gb103) (o := .cells #[.int .i64 0, .int .i64 0, .string (⟨#[]⟩ : ByteArray)] 35 (0, 0)) (by (with_reducible repeat (first | refine blk_drewN ?_ _ | refine blk_drew ?_ | refine blk_alloc ?_ _)); exact BK103.out) hb); have n3_ := Aside0.mk (below_step (by repeat (first | (with_reducible first | exact HB.out | apply below_alloc | apply pw_below_drewN | apply below_drew1 | refine below_set ?_ GE101.out | refine below_set ?_ GE102.out | refine below_set ?_ GE103.out) | exact HB.out)) hb); clear BK101; clear BK102; clear BK103; clear HB; have BK101 := n0_; have BK102 := n1_; have BK103 := n2_; have HB := n3_; clear n0_ n1_ n2_ n3_; (try clear hb); (try clear hb2); (try clear hk); (try clear hi); have hcz49_0 : w48.cell? ⟨gb103, 0, none⟩ = some (.int .i64 0) := (blk_cell BK103.out 0).trans rfl; have hcz49_1 : w48.cell? ⟨gb103, 1, none⟩ = some (.int .i64 0) := (blk_cell BK103.out 1).trans rfl; have hcz49_2 : w48.cell? ⟨gb103, 2, none⟩ = some (.string (⟨#[]⟩ : ByteArray)) := (blk_cell BK103.out 2).trans rfl; have hfz49_0 := blk_frozen BK103.out 0; have hfz49_1 := blk_frozen BK103.out 1; have hfz49_2 := blk_frozen BK103.out 2))
              refine bodyPost_ret (results_cell_row rfl _ _ gb103 35 #[.int .i64 t114, .int .i64 t115, .string t116] (0, 0) _ rfl (by (with_reducible repeat (first | refine blk_drewN ?_ _ | refine blk_drew ?_ | refine blk_alloc ?_ _)); refine blk_put (cs := #[.int .i64 t114, .int .i64 t115, .string (⟨#[]⟩ : ByteArray)]) ?_ 2 _ rfl; (with_reducible repeat (first | refine blk_drewN ?_ _ | refine blk_drew ?_ | refine blk_alloc ?_ _)); refine blk_put (cs := #[.int .i64 t114, .int .i64 0, .string (⟨#[]⟩ : ByteArray)]) ?_ 1 _ rfl; (with_reducible repeat (first | refine blk_drewN ?_ _ | refine blk_drew ?_ | refine blk_alloc ?_ _)); refine blk_put (cs := #[.int .i64 0, .int .i64 0, .string (⟨#[]⟩ : ByteArray)]) ?_ 0 _ rfl; (with_reducible repeat (first | refine blk_drewN ?_ _ | refine blk_drew ?_ | refine blk_alloc ?_ _)); exact BK103.out) Tryz.underlying35 rfl (by kernel_rfl)) rfl ?_
              exact ⟨by first | rfl | (simp [errW_none, errW_some] <;> rfl) | (simp [*, errW_none, errW_some] <;> rfl), by repeat (first | (with_reducible first | exact HB.out | apply below_alloc | apply pw_below_drewN | apply below_drew1 | refine below_set ?_ GE101.out | refine below_set ?_ GE102.out | refine below_set ?_ GE103.out) | exact HB.out)⟩
          · rw [if_neg c31] at H
            have c31b0 : (a0_0 == 2) = false := beq_eq_false_iff_ne.mpr c31
            have c31b1 : (a0_0 != 2) = true := bne_iff_ne.mpr c31
            replace H := Option.bind_eq_some_iff.mp H
            obtain ⟨t117, A500, H⟩ := H
            replace H : ((chapmanref06_Str.f t117).bind fun bt118 => (some (bt118.1, bt118.2.1, bt118.2.2))) = some (r1, r2, r3) := H
            have A50 := Aside0.mk A500
            clear A500
            replace H := Option.bind_eq_some_iff.mp H
            obtain ⟨⟨t118, t119, t120⟩, A510, H⟩ := H
            replace H : (some (t118, t119, t120)) = some (r1, r2, r3) := H
            have A51 := Aside0.mk A510
            clear A510
            simp only [Option.some.injEq, Prod.mk.injEq] at H
            obtain ⟨rfl, rfl, rfl⟩ := H
            have hnb52 := NB101_102.out
            have hnc52 := NB102_101.out
            have hnb53 := NB101_103.out
            have hnc53 := NB103_101.out
            have hcz54_0 : wc.cell? ⟨gb101, 0, none⟩ = some (.int .i64 a0_0) := (blk_cell BK101.out 0).trans rfl
            have hcz54_1 : wc.cell? ⟨gb101, 1, none⟩ = some (.int .i64 a0_1) := (blk_cell BK101.out 1).trans rfl
            have hcz54_2 : wc.cell? ⟨gb101, 2, none⟩ = some (.bool a0_2) := (blk_cell BK101.out 2).trans rfl
            have hfz54_0 := blk_frozen BK101.out 0
            have hfz54_1 := blk_frozen BK101.out 1
            have hfz54_2 := blk_frozen BK101.out 2
            have hnb55 := NB102_103.out
            have hnc55 := NB103_102.out
            have hcz56_0 : wc.cell? ⟨gb102, 0, none⟩ = some (.int .u8 a1_0) := (blk_cell BK102.out 0).trans rfl
            have hcz56_1 : wc.cell? ⟨gb102, 1, none⟩ = some (.int .u8 a1_1) := (blk_cell BK102.out 1).trans rfl
            have hfz56_0 := blk_frozen BK102.out 0
            have hfz56_1 := blk_frozen BK102.out 1
            go_wp2_with (first | ((with_reducible refine gate_callee (f := 63) rfl ?_); refine goesL_ (some 46) rfl rfl Tryz.func63 (by kernel_rfl) rfl #[.int .i64 (wrap64 (a1_1))] rfl (by (try simp only [List.map_toArray, List.map_cons, List.map_nil]); first | done | rfl | (simp only [List.length_drop, List.length_take]; rfl)) ?_; (with_reducible refine (chapmanref06_words.calls (wrap64 (a1_1)) t117 _ A50.out).mono ?_); rintro e w57 ⟨rfl, hb⟩; refine ⟨_, rfl, ?_⟩; have n0_ := Aside0.mk (blk_below (g := gb101) (o := .cells #[.int .i64 a0_0, .int .i64 a0_1, .bool a0_2] 63 (0, 0)) (by (with_reducible repeat (first | refine blk_drewN ?_ _ | refine blk_drew ?_ | refine blk_alloc ?_ _)); exact BK101.out) hb); have n1_ := Aside0.mk (blk_below (g := gb102) (o := .cells #[.int .u8 a1_0, .int .u8 a1_1] 70 (0, 0)) (by (with_reducible repeat (first | refine blk_drewN ?_ _ | refine blk_drew ?_ | refine blk_alloc ?_ _)); exact BK102.out) hb); have n2_ := Aside0.mk (blk_below (g := gb103) (o := .cells #[.int .i64 0, .int .i64 0, .string (⟨#[]⟩ : ByteArray)] 35 (0, 0)) (by (with_reducible repeat (first | refine blk_drewN ?_ _ | refine blk_drew ?_ | refine blk_alloc ?_ _)); exact BK103.out) hb); have n3_ := Aside0.mk (below_step (by repeat (first | (with_reducible first | exact HB.out | apply below_alloc | apply pw_below_drewN | apply below_drew1 | refine below_set ?_ GE101.out | refine below_set ?_ GE102.out | refine below_set ?_ GE103.out) | exact HB.out)) hb); clear BK101; clear BK102; clear BK103; clear HB; have BK101 := n0_; have BK102 := n1_; have BK103 := n2_; have HB := n3_; clear n0_ n1_ n2_ n3_; (try clear hb); (try clear hb2); (try clear hk); (try clear hi)) | ((with_reducible refine gate_callee (f := 38) rfl ?_); refine goesL_ (some 47) rfl rfl Tryz.func38 (by kernel_rfl) rfl #[.string t117] rfl (by (try simp only [List.map_toArray, List.map_cons, List.map_nil]); first | done | rfl | (simp only [List.length_drop, List.length_take]; rfl)) ?_; (with_reducible refine (chapmanref06_Str.calls t117 t118 t119 t120 _ A51.out).mono ?_); rintro e w58 ⟨rfl, hb⟩; refine ⟨_, rfl, ?_⟩; have n0_ := Aside0.mk (blk_below (g := gb101) (o := .cells #[.int .i64 a0_0, .int .i64 a0_1, .bool a0_2] 63 (0, 0)) (by (with_reducible repeat (first | refine blk_drewN ?_ _ | refine blk_drew ?_ | refine blk_alloc ?_ _)); exact BK101.out) hb); have n1_ := Aside0.mk (blk_below (g := gb102) (o := .cells #[.int .u8 a1_0, .int .u8 a1_1] 70 (0, 0)) (by (with_reducible repeat (first | refine blk_drewN ?_ _ | refine blk_drew ?_ | refine blk_alloc ?_ _)); exact BK102.out) hb); have n2_ := Aside0.mk (blk_below (g := gb103) (o := .cells #[.int .i64 0, .int .i64 0, .string (⟨#[]⟩ : ByteArray)] 35 (0, 0)) (by (with_reducible repeat (first | refine blk_drewN ?_ _ | refine blk_drew ?_ | refine blk_alloc ?_ _)); exact BK103.out) hb); have n3_ := Aside0.mk (below_step (by repeat (first | (with_reducible first | exact HB.out | apply below_alloc | apply pw_below_drewN | apply below_drew1 | refine below_set ?_ GE101.out | refine below_set ?_ GE102.out | refine below_set ?_ GE103.out) | exact HB.out)) hb); clear BK101; clear BK102; clear BK103; clear HB; have BK101 := n0_; have BK102 := n1_; have BK103 := n2_; have HB := n3_; clear n0_ n1_ n2_ n3_; (try clear hb); (try clear hb2); (try clear hk); (try clear hi); have hcz59_0 : w58.cell? ⟨gb103, 0, none⟩ = some (.int .i64 0) := (blk_cell BK103.out 0).trans rfl; have hcz59_1 : w58.cell? ⟨gb103, 1, none⟩ = some (.int .i64 0) := (blk_cell BK103.out 1).trans rfl; have hcz59_2 : w58.cell? ⟨gb103, 2, none⟩ = some (.string (⟨#[]⟩ : ByteArray)) := (blk_cell BK103.out 2).trans rfl; have hfz59_0 := blk_frozen BK103.out 0; have hfz59_1 := blk_frozen BK103.out 1; have hfz59_2 := blk_frozen BK103.out 2))
            refine bodyPost_ret (results_cell_row rfl _ _ gb103 35 #[.int .i64 t118, .int .i64 t119, .string t120] (0, 0) _ rfl (by (with_reducible repeat (first | refine blk_drewN ?_ _ | refine blk_drew ?_ | refine blk_alloc ?_ _)); refine blk_put (cs := #[.int .i64 t118, .int .i64 t119, .string (⟨#[]⟩ : ByteArray)]) ?_ 2 _ rfl; (with_reducible repeat (first | refine blk_drewN ?_ _ | refine blk_drew ?_ | refine blk_alloc ?_ _)); refine blk_put (cs := #[.int .i64 t118, .int .i64 0, .string (⟨#[]⟩ : ByteArray)]) ?_ 1 _ rfl; (with_reducible repeat (first | refine blk_drewN ?_ _ | refine blk_drew ?_ | refine blk_alloc ?_ _)); refine blk_put (cs := #[.int .i64 0, .int .i64 0, .string (⟨#[]⟩ : ByteArray)]) ?_ 0 _ rfl; (with_reducible repeat (first | refine blk_drewN ?_ _ | refine blk_drew ?_ | refine blk_alloc ?_ _)); exact BK103.out) Tryz.underlying35 rfl (by kernel_rfl)) rfl ?_
            exact ⟨by first | rfl | (simp [errW_none, errW_some] <;> rfl) | (simp [*, errW_none, errW_some] <;> rfl), by repeat (first | (with_reducible first | exact HB.out | apply below_alloc | apply pw_below_drewN | apply below_drew1 | refine below_set ?_ GE101.out | refine below_set ?_ GE102.out | refine below_set ?_ GE103.out) | exact HB.out)⟩
end Go.Proofs.YteflfnjljjianaaGreatDoor.Qx
namespace Go.Proofs.YteflfnjljjianaaGreatDoor.Qx
open Go.RowKit Go.Proofs.YteflfnjljjianaaGreatDoorW.PrintWords Go.Proofs.YteflfnjljjianaaGreatDoorW.PrintLast Go.Proofs.YteflfnjljjianaaGreatDoorW.PrintMore
attribute [local go_sem] max2_int min2_int max_two min_two
set_option linter.unusedVariables false
set_option linter.unusedSimpArgs false
def chapmanref11_Byte.f (l0_0 : List Int) (a0_1 : Int) : Option (Int) := if a0_1 < (l0_0.length : Int) then (if 0 ≤ a0_1 then (some (wrap64 (rd l0_0 a0_1))) else (none)) else (some 0)
set_option maxHeartbeats 8000000 in
set_option maxRecDepth 100000 in
theorem chapmanref11_Byte.calls (A0_0 : Option Addr) (c0_0 : Nat) (l0_0 : List Int) (a0_1 : Int) (r : Int) (w : World) (hr0_0 : Kd.C (Kd.int .u8) w A0_0 l0_0.length l0_0) (hc0_0 : l0_0.length ≤ c0_0) (h : chapmanref11_Byte.f l0_0 a0_1 = some r) :
    Calls Tryz.prog 64 #[.agg #[.slice A0_0 l0_0.length c0_0, .int .i64 a0_1]] w fun e w' => e = .returned (.int .i64 r) ∧ Below w.heap.size w w' := by
  have hu87 := Tryz.underlying87
  have HR0_0 := Aside0.mk hr0_0
  have HC0_0 := Aside0.mk hc0_0
  clear hr0_0 hc0_0
  have HB := Aside0.mk (Below.refl w.heap.size w)
  have H : (if a0_1 < (l0_0.length : Int) then (if 0 ≤ a0_1 then (some (wrap64 (rd l0_0 a0_1))) else (none)) else (some 0)) = some r := h
  clear h
  by_cases c2 : a0_1 < (l0_0.length : Int)
  · rw [if_pos c2] at H
    have c2b0 : decide (a0_1 < (l0_0.length : Int)) = true := decide_eq_true c2
    clear c2
    by_cases c3 : 0 ≤ a0_1
    · rw [if_pos c3] at H
      have c3b0 : decide (0 ≤ a0_1) = true := decide_eq_true c3
      clear c3
      obtain rfl := Option.some.inj H
      go_enter Tryz.func64, Tryz.ntmps64
      go_wp2_with (first | ((with_reducible refine gate_dst (N := 1) rfl ?_); refine box_event ?hg (N := 1) ?hd (cs := #[.slice A0_0 l0_0.length c0_0, .int .i64 a0_1]) (t := 87) ?hr ?_; (case hd => rfl); (case hg => rfl); (case hr => first | (go_simp; done) | (go_simp; rfl)); intro gb101 hg w4 hbox hb; have n0_ := Aside0.mk (below_step (by repeat (first | (with_reducible first | exact HB.out | apply below_alloc | apply pw_below_drewN | apply below_drew1) | exact HB.out)) hb); have n1_ := Aside0.mk (hbox); have n2_ := Aside0.mk ((by rw [hg]; exact (below_size (by repeat (first | (with_reducible first | exact HB.out | apply below_alloc | apply pw_below_drewN | apply below_drew1) | exact HB.out))) : w.heap.size ≤ gb101)); have n3_ := Aside0.mk ((by rw [hg]; exact (below_size (by repeat (first | (with_reducible first | exact HB.out | apply below_alloc | apply pw_below_drewN | apply below_drew1) | exact HB.out))) : w.heap.size ≤ gb101)); clear HB; have HB := n0_; have BK101 := n1_; have GW101 := n2_; have GE101 := n3_; clear n0_ n1_ n2_ n3_; clear hb hbox hg; have hcz5_0 : w4.cell? ⟨gb101, 0, none⟩ = some (.slice A0_0 l0_0.length c0_0) := (blk_cell BK101.out 0).trans rfl; have hcz5_1 : w4.cell? ⟨gb101, 1, none⟩ = some (.int .i64 a0_1) := (blk_cell BK101.out 1).trans rfl; have hfz5_0 := blk_frozen BK101.out 0; have hfz5_1 := blk_frozen BK101.out 1; have p102 : 0 ≤ (a0_1 : Int) := of_decide_eq_true (by first | (with_reducible assumption) | assumption); have q102 : a0_1 < (l0_0.length : Int) := of_decide_eq_true (by first | (with_reducible assumption) | assumption); obtain ⟨ad102, e102, hx102_0⟩ := Kd.at_int HR0_0.out a0_1 p102 q102; cases e102; replace hx102_0 := (HB.out.cell (World.block_lt_of_cell? w _ hx102_0)).trans hx102_0; replace p102 := eq_true p102; replace q102 := eq_true q102))
      go_ret
      exact ⟨by first | rfl | (simp [errW_none, errW_some] <;> rfl) | (simp [*, errW_none, errW_some] <;> rfl), by repeat (first | (with_reducible first | exact HB.out | apply below_alloc | apply pw_below_drewN | apply below_drew1 | refine below_set ?_ GE101.out) | exact HB.out)⟩
    · rw [if_neg c3] at H
      exact absurd H (by simp)
  · rw [if_neg c2] at H
    have c2b0 : decide (a0_1 < (l0_0.length : Int)) = false := decide_eq_false c2
    clear c2
    obtain rfl := Option.some.inj H
    go_enter Tryz.func64, Tryz.ntmps64
    go_wp2_with (first | ((with_reducible refine gate_dst (N := 1) rfl ?_); refine box_event ?hg (N := 1) ?hd (cs := #[.slice A0_0 l0_0.length c0_0, .int .i64 a0_1]) (t := 87) ?hr ?_; (case hd => rfl); (case hg => rfl); (case hr => first | (go_simp; done) | (go_simp; rfl)); intro gb101 hg w6 hbox hb; have n0_ := Aside0.mk (below_step (by repeat (first | (with_reducible first | exact HB.out | apply below_alloc | apply pw_below_drewN | apply below_drew1) | exact HB.out)) hb); have n1_ := Aside0.mk (hbox); have n2_ := Aside0.mk ((by rw [hg]; exact (below_size (by repeat (first | (with_reducible first | exact HB.out | apply below_alloc | apply pw_below_drewN | apply below_drew1) | exact HB.out))) : w.heap.size ≤ gb101)); have n3_ := Aside0.mk ((by rw [hg]; exact (below_size (by repeat (first | (with_reducible first | exact HB.out | apply below_alloc | apply pw_below_drewN | apply below_drew1) | exact HB.out))) : w.heap.size ≤ gb101)); clear HB; have HB := n0_; have BK101 := n1_; have GW101 := n2_; have GE101 := n3_; clear n0_ n1_ n2_ n3_; clear hb hbox hg; have hcz7_0 : w6.cell? ⟨gb101, 0, none⟩ = some (.slice A0_0 l0_0.length c0_0) := (blk_cell BK101.out 0).trans rfl; have hcz7_1 : w6.cell? ⟨gb101, 1, none⟩ = some (.int .i64 a0_1) := (blk_cell BK101.out 1).trans rfl; have hfz7_0 := blk_frozen BK101.out 0; have hfz7_1 := blk_frozen BK101.out 1))
    go_ret
    exact ⟨by first | rfl | (simp [errW_none, errW_some] <;> rfl) | (simp [*, errW_none, errW_some] <;> rfl), by repeat (first | (with_reducible first | exact HB.out | apply below_alloc | apply pw_below_drewN | apply below_drew1 | refine below_set ?_ GE101.out) | exact HB.out)⟩
end Go.Proofs.YteflfnjljjianaaGreatDoor.Qx
namespace Go.Proofs.YteflfnjljjianaaGreatDoor.Qx
open Go.RowKit Go.Proofs.YteflfnjljjianaaGreatDoorW.PrintWords Go.Proofs.YteflfnjljjianaaGreatDoorW.PrintLast Go.Proofs.YteflfnjljjianaaGreatDoorW.PrintMore
attribute [local go_sem] max2_int min2_int max_two min_two
set_option linter.unusedVariables false
set_option linter.unusedSimpArgs false
theorem own_below {V X : World} {base : Nat} {e : TypeId} {size : Nat} {v : Value} {n : Nat} {xs : List Value} (h : V.ownsRow base e size v n xs) (hb : Below V.heap.size V X) : X.ownsRow base e size v n xs := by
  refine h.kept (row := none) ⟨hb.os, hb.tape, hb.output, hb.size, fun k hk _ => hb.block k hk⟩ ?_
  cases v.ownBlock <;> simp
def rowByte (l : List Int) (i : Nat) : Int := l.getD i 0
theorem rowByte_range {l : List Int} (h : ∀ x ∈ l, 0 ≤ x ∧ x < 256) (i : Nat) : 0 ≤ rowByte l i ∧ rowByte l i < 256 := by
  unfold rowByte
  rw [List.getD_eq_getElem?_getD]
  rcases hi : l[i]? with _ | x
  · simp
  · exact h x (List.mem_of_getElem? hi)
theorem byte_f {l : List Int} (h : ∀ x ∈ l, 0 ≤ x ∧ x < 256) (i : Nat) (hi : i < 1000000) : chapmanref11_Byte.f l (i : Int) = some (rowByte l i) := by
  unfold chapmanref11_Byte.f
  have := rowByte_range h i
  split
  · rename_i h1
    rw [if_pos (by omega)]
    unfold rowByte at *
    simp [rd]
    rw [List.getD_eq_getElem?_getD] at this
    unfold wrap64
    omega
  · rename_i h1
    unfold rowByte
    rw [List.getD_eq_getElem?_getD, List.getElem?_eq_none (by omega)]
    rfl
set_option maxRecDepth 100000 in
set_option maxHeartbeats 4000000 in
theorem chapmanref11_On.own (A0 : Option Addr) (c0 n : Nat) (a d : Int) (w : World) (ha : 0 ≤ a ∧ a < 4611686018427387904) (hd : 0 ≤ d ∧ d < 4611686018427387904) :
    Calls Tryz.prog 65 #[.agg #[.slice A0 n c0, .int .i64 a], .int .i64 d] w fun e w' => e = .returned (.agg #[.slice A0 n c0, .int .i64 (a + d)]) ∧ Below w.heap.size w w' := by
  have hu87 := Tryz.underlying87
  go_enter Tryz.func65, Tryz.ntmps65
  go_wp2
  refine bodyPost_ret (v := .agg #[.slice A0 n c0, .int .i64 (a + d)]) (by simp [results, Tryz.results65, go_sem, *]) rfl ⟨rfl, ?_⟩
  repeat (with_reducible first | refine Below.drew ?_ | refine below_alloc ?_ _ | refine below_set ?_ (by first | exact Nat.le_refl _ | exact Nat.le_add_right _ _))
  exact Below.refl _ _
theorem row_cell_lt {w : World} {a : Addr} {v : Value} (h : w.cell? a = some v) : a.block < w.heap.size := by
  by_cases hlt : a.block < w.heap.size
  · exact hlt
  · have hn : w.heap[a.block]? = none := Array.getElem?_eq_none (by omega)
    simp [World.cell?, hn] at h
def c35' (x : S35) : List Value := [.int .i64 x.f0, .int .i64 x.f1, .string x.f2]
theorem info35' : (Tryz.prog.info? 35).map (fun i => (i.zero, i.size, i.bytes)) = some (some (.agg #[.int .i64 0, .int .i64 0, .string ⟨#[]⟩]), 3, 32) := by kernel_rfl
def RowOf (k : Nat) (T : List S63) (l : List Int) (vs : List S35) : Prop :=
  vs.length = T.length ∧ ∀ i, i < T.length → chapmanref06_Value.f k (rd_T63 T i).f0 (rd_T63 T i).f1 (rd_T63 T i).f2 (rowByte l (2 * i)) (rowByte l (2 * i + 1)) = some ((rd_T35 vs i).f0, (rd_T35 vs i).f1, (rd_T35 vs i).f2)
set_option maxRecDepth 100000 in
set_option maxHeartbeats 4000000 in
theorem chapmanref11_Row.calls (k : Nat) (AT : Option Addr) (cT : Nat) (T : List S63) (A0 : Option Addr) (c0 : Nat) (l : List Int) (vs : List S35) (w : World) (hT : Kd.C k63 w AT T.length T) (hTl : T.length ≤ 100000) (hr : Kd.C (Kd.int .u8) w A0 l.length l) (hc : l.length ≤ c0) (hb : ∀ x ∈ l, 0 ≤ x ∧ x < 256) (hv : RowOf k T l vs) :
    Calls Tryz.prog 32 #[.slice AT T.length cT, .slice A0 l.length c0] w fun e w' => ∃ v, e = .returned v ∧ w'.ownsRow w.heap.size 35 3 v vs.length (vs.flatMap c35') ∧ Below w.heap.size w w' := by
  have hu25 := Tryz.underlying25
  have hu28 := Tryz.underlying28
  have hu63 := Tryz.underlying63
  have hu70 := Tryz.underlying70
  have hu87 := Tryz.underlying87
  have hu35 := Tryz.underlying35
  obtain ⟨i0, hi, hz0, hz1, hz2⟩ := info_parts info35'
  obtain ⟨hvl, hvv⟩ := hv
  have HT := Lib.hid hT
  have HR := Lib.hid hr
  have HBy := Lib.hid hb
  have HV := Lib.hid hvv
  clear hT hr hb hvv
  go_enter Tryz.func32, Tryz.ntmps32
  go_wp2
  go_loopw [5, 6, 7] (fun s5 s6 s7 wr => ∃ (j : Nat), s6 = .int .i64 j ∧ j ≤ T.length ∧ wr.ownsRow w.heap.size 35 3 s5 j ((vs.take j).flatMap c35') ∧ Below w.heap.size w wr) (fun _ s6 _ _ => T.length - (intOf s6).toNat)
  case atStart => exact ⟨0, rfl, Nat.zero_le _, ⟨rfl, Or.inr ⟨w.heap.size, 0, #[], rfl, Nat.le_refl _, heap_alloc_new w _, Nat.le_refl _, Nat.zero_le _, rfl, rfl⟩⟩, (Below.refl w.heap.size w).alloc (Nat.le_refl _) _⟩
  case round =>
    obtain ⟨j, rfl, hj, hown, hB⟩ := hrel
    by_cases hlt : j < T.length
    · have hd : decide ((j : Int) < (T.length : Int)) = true := decide_eq_true (by omega)
      have hval := HV.out j hlt
      generalize hty : rd_T63 T (j : Int) = ty at *
      have hB0 := rowByte_range HBy.out (2 * j)
      have hB1 := rowByte_range HBy.out (2 * j + 1)
      have hf0 := byte_f HBy.out (2 * j) (by omega)
      have hf1 := byte_f HBy.out (2 * j + 1) (by omega)
      generalize rowByte l (2 * j) = b0 at *
      generalize rowByte l (2 * j + 1) = b1 at *
      have hvr : vs[j]? = some (rd_T35 vs j) := by
        rw [rd_T35, Int.toNat_natCast, List.getD_eq_getElem?_getD, List.getElem?_eq_getElem (by omega)]; rfl
      generalize rd_T35 vs (j : Int) = x at *
      have hw0 : IntKind.u8.wrap b0 = b0 := by rw [IntKind.wrap_u8]; omega
      have hw1 : IntKind.u8.wrap b1 = b1 := by rw [IntKind.wrap_u8]; omega
      have e2j : (2 : Int) * (j : Int) = ((2 * j : Nat) : Int) := by omega
      have hm2 : ((2 * j : Nat) : Int) = 2 * (j : Int) := by omega
      have HVAL := Lib.hid hval
      have HF0 := Lib.hid (hm2 ▸ hf0)
      have HF1 := Lib.hid (show chapmanref11_Byte.f l (2 * (j : Int) + 1) = some b1 by rw [← hf1]; congr 1)
      clear hval hf0 hf1 e2j hm2
      go_wp2
      have C0 := heap_alloc_new wr (.cells #[.slice A0 l.length c0, .int .i64 (2 * (j : Int))] 87)
      have hBV := below_alloc hB (.cells #[.slice A0 l.length c0, .int .i64 (2 * (j : Int))] 87)
      have hownV := hown.alloc (.cells #[.slice A0 l.length c0, .int .i64 (2 * (j : Int))] 87)
      have hsV : wr.heap.size < (wr.alloc (.cells #[.slice A0 l.length c0, .int .i64 (2 * (j : Int))] 87)).heap.size := by simp
      generalize (wr.alloc (.cells #[.slice A0 l.length c0, .int .i64 (2 * (j : Int))] 87)) = V at *
      obtain ⟨ad, e0, t0, t1, t2⟩ := at_T63 HT.out (j : Int) (by omega) (by omega)
      rw [hty] at t0 t1 t2
      simp only [Int.toNat_natCast] at t0 t1 t2
      subst e0
      have hlw : (ad.add (j * 3)).block < w.heap.size := row_cell_lt t0
      have hlo : (ad.add (j * 3)).block < V.heap.size := Nat.lt_of_lt_of_le hlw hBV.size
      replace t0 := (hBV.cell hlw).trans t0
      replace t1 := (hBV.cell (p := ⟨(ad.add (j * 3)).block, (ad.add (j * 3)).off + 1, none⟩) hlw).trans t1
      replace t2 := (hBV.cell (p := ⟨(ad.add (j * 3)).block, (ad.add (j * 3)).off + 2, none⟩) hlw).trans t2
      have hne1 : some wr.heap.size ≠ Value.ownBlock u5 := fun e => by have := (hown.lt _ e.symm).2; omega
      have hne2 : some (ad.add (j * 3)).block ≠ Value.ownBlock u5 := fun e => by have := (hown.lt _ e.symm).1; omega
      have C0a : V.cell? ⟨wr.heap.size, 0, none⟩ = some (.slice A0 l.length c0) := (blk_cell C0 0).trans rfl
      have C0b : V.cell? ⟨wr.heap.size, 1, none⟩ = some (.int .i64 (2 * (j : Int))) := (blk_cell C0 1).trans rfl
      have KS := Lib.hid (fun (X : World) (hX : Below V.heap.size V X) => show X.cell? ⟨wr.heap.size, 0, none⟩ = some (.slice A0 l.length c0) ∧ X.cell? ⟨wr.heap.size, 1, none⟩ = some (.int .i64 (2 * (j : Int))) ∧ X.cell? (ad.add (j * 3)) = some (.int .i64 ty.f0) ∧ X.cell? ⟨(ad.add (j * 3)).block, (ad.add (j * 3)).off + 1, none⟩ = some (.int .i64 ty.f1) ∧ X.cell? ⟨(ad.add (j * 3)).block, (ad.add (j * 3)).off + 2, none⟩ = some (.bool ty.f2) from
        ⟨(hX.cell hsV).trans C0a, (hX.cell hsV).trans C0b, (hX.cell hlo).trans t0, (hX.cell (p := ⟨(ad.add (j * 3)).block, (ad.add (j * 3)).off + 1, none⟩) hlo).trans t1, (hX.cell (p := ⟨(ad.add (j * 3)).block, (ad.add (j * 3)).off + 2, none⟩) hlo).trans t2⟩)
      have KG := Lib.hid (fun (X Y : World) (hX : Below V.heap.size V X) (hg : X.grownBy Y (Value.ownBlock u5)) => show Y.cell? ⟨wr.heap.size, 0, none⟩ = some (.slice A0 l.length c0) ∧ Y.cell? ⟨wr.heap.size, 1, none⟩ = some (.int .i64 (2 * (j : Int))) ∧ Y.cell? (ad.add (j * 3)) = some (.int .i64 ty.f0) ∧ Y.cell? ⟨(ad.add (j * 3)).block, (ad.add (j * 3)).off + 1, none⟩ = some (.int .i64 ty.f1) ∧ Y.cell? ⟨(ad.add (j * 3)).block, (ad.add (j * 3)).off + 2, none⟩ = some (.bool ty.f2) from
        have s1 := Nat.lt_of_lt_of_le hsV hX.size
        have s2 := Nat.lt_of_lt_of_le hlo hX.size
        ⟨(hg.cell_far ⟨wr.heap.size, 0, none⟩ s1 hne1).trans (KS.out X hX).1, (hg.cell_far ⟨wr.heap.size, 1, none⟩ s1 hne1).trans (KS.out X hX).2.1, (hg.cell_far (ad.add (j * 3)) s2 hne2).trans (KS.out X hX).2.2.1, (hg.cell_far ⟨(ad.add (j * 3)).block, (ad.add (j * 3)).off + 1, none⟩ s2 hne2).trans (KS.out X hX).2.2.2.1, (hg.cell_far ⟨(ad.add (j * 3)).block, (ad.add (j * 3)).off + 2, none⟩ s2 hne2).trans (KS.out X hX).2.2.2.2⟩)
      have HX := Lib.hid (Below.refl V.heap.size V)
      have HRV := Lib.hid (Kd.C_below HR.out hBV)
      have HOWN := Lib.hid hownV
      have HBV := Lib.hid hBV
      clear hB hBV hownV hown C0 C0a C0b t0 t1 t2 HR HT
      go_region_held3 (fun w' => w'.cell? ⟨wr.heap.size, 0, none⟩ = some (.slice A0 l.length c0) ∧ w'.cell? ⟨wr.heap.size, 1, none⟩ = some (.int .i64 (2 * (j : Int))) ∧ w'.cell? (ad.add (j * 3)) = some (.int .i64 ty.f0) ∧ w'.cell? ⟨(ad.add (j * 3)).block, (ad.add (j * 3)).off + 1, none⟩ = some (.int .i64 ty.f1) ∧ w'.cell? ⟨(ad.add (j * 3)).block, (ad.add (j * 3)).off + 2, none⟩ = some (.bool ty.f2))
        (first | (refine KS.out _ ?_; (repeat (with_reducible first | exact HX.out | refine below_alloc ?_ _ | refine below_drew1 ?_ | refine pw_below_drewN ?_ _)); done) | exact KG.out _ _ (show Below V.heap.size V _ from (by repeat (with_reducible first | exact HX.out | refine below_alloc ?_ _ | refine below_drew1 ?_ | refine pw_below_drewN ?_ _))) hgrow) (first
        | (go_at_call 64
           with_reducible refine (chapmanref11_Byte.calls A0 c0 l (2 * (j : Int) + 1) b1 _ (Kd.C_below HRV.out (by repeat (with_reducible first | exact HX.out | refine below_alloc ?_ _ | refine below_drew1 ?_ | refine pw_below_drewN ?_ _))) hc HF1.out).mono ?_
           rintro e w5 ⟨rfl, hb5⟩
           replace HX : RowKit.Hid (Below V.heap.size V w5) := Lib.hid (below_step (by repeat (with_reducible first | exact HX.out | refine below_alloc ?_ _ | refine below_drew1 ?_ | refine pw_below_drewN ?_ _)) hb5)
           clear hb5)
        | (go_at_call 64
           with_reducible refine (chapmanref11_Byte.calls A0 c0 l (2 * (j : Int)) b0 _ (Kd.C_below HRV.out (by repeat (with_reducible first | exact HX.out | refine below_alloc ?_ _ | refine below_drew1 ?_ | refine pw_below_drewN ?_ _))) hc HF0.out).mono ?_
           rintro e w5 ⟨rfl, hb5⟩
           replace HX : RowKit.Hid (Below V.heap.size V w5) := Lib.hid (below_step (by repeat (with_reducible first | exact HX.out | refine below_alloc ?_ _ | refine below_drew1 ?_ | refine pw_below_drewN ?_ _)) hb5)
           clear hb5)
        | (go_at_call 65
           with_reducible refine (chapmanref11_On.own A0 c0 l.length (2 * (j : Int)) 1 _ (by omega) (by omega)).mono ?_
           rintro e w5 ⟨rfl, hb5⟩
           replace HX : RowKit.Hid (Below V.heap.size V w5) := Lib.hid (below_step (by repeat (with_reducible first | exact HX.out | refine below_alloc ?_ _ | refine below_drew1 ?_ | refine pw_below_drewN ?_ _)) hb5)
           clear hb5)
        | (go_at_call 31
           with_reducible refine (chapmanref06_Value.calls k ty.f0 ty.f1 ty.f2 b0 b1 x.f0 x.f1 x.f2 _ HVAL.out).mono ?_
           rintro e w5 ⟨rfl, hb5⟩
           replace HX : RowKit.Hid (Below V.heap.size V w5) := Lib.hid (below_step (by repeat (with_reducible first | exact HX.out | refine below_alloc ?_ _ | refine below_drew1 ?_ | refine pw_below_drewN ?_ _)) hb5)
           clear hb5)
        | (refine step_append_lies _ (by rfl) _ _ _ (by rfl) w.heap.size 35 i0 (.agg #[.int .i64 0, .int .i64 0, .string ⟨#[]⟩]) 3 32 hu28 hi hz0 hz1 hz2 rfl (by decide) _ j ((vs.take j).flatMap c35') (by rfl) (own_below HOWN.out (show Below V.heap.size V _ from (by repeat (with_reducible first | exact HX.out | refine below_alloc ?_ _ | refine below_drew1 ?_ | refine pw_below_drewN ?_ _)))) _ 1 1 (c35' x) (by rfl) (by rfl) (World.news_of_block (cs := #[.int .i64 x.f0, .int .i64 x.f1, .string x.f2]) (t := 35) (fr := (0, 0)) (by first | exact heap_alloc_new _ _ | exact blk_drew (heap_alloc_new _ _))) (by simp [c35', Value.oneCell']) (by decide) (by unfold maxLen; omega) (by omega) (Nat.le_trans HBV.out.size (Below.size (show Below V.heap.size V _ from (by repeat (with_reducible first | exact HX.out | refine below_alloc ?_ _ | refine below_drew1 ?_ | refine pw_below_drewN ?_ _))))) _ rfl ?_
           intro g1 cap1 w6 hown' hgrow hat hlt))
      have hBX := below_alloc (below_then HBV.out HBV.out.size HX.out) (.cells #[.int .i64 x.f0, .int .i64 x.f1, .string x.f2] 35)
      have hB6 := hBX.grown hgrow hBX.size (fun g h => (HOWN.out.lt g h).1)
      clear HX HBV HOWN KS KG HRV hgrow hat HVAL HF0 HF1
      go_wp2
      refine ⟨⟨j + 1, by simp, by omega, ?_, hB6⟩, by simp [intOf]; omega⟩
      rw [List.take_add_one, hvr, List.flatMap_append]
      simpa using hown'
    · have hd : decide ((j : Int) < (T.length : Int)) = false := decide_eq_false (by omega)
      go_wp2
      obtain rfl : j = T.length := by omega
      refine bodyPost_ret (v := u5) (by simp [results, Tryz.results32, go_sem, *]) rfl ⟨u5, rfl, ?_, hB⟩
      rw [hvl]
      rw [List.take_of_length_le (by omega)] at hown
      exact hown
theorem flat35' : ∀ (ss : List S35) (j i : Nat) (p : S35) (u : Value), ss[j]? = some p → (c35' p)[i]? = some u → (ss.flatMap c35')[j * 3 + i]? = some u
  | [], j, i, p, u, h, _ => by simp at h
  | q :: ss, 0, i, p, u, h, h2 => by
    obtain rfl : q = p := by simpa using h
    rw [List.flatMap_cons, List.getElem?_append_left (by have := (List.getElem?_eq_some_iff.1 h2).1; simpa using this)]
    simpa using h2
  | q :: ss, j + 1, i, p, u, h, h2 => by
    have := flat35' ss j i p u (by simpa using h) h2
    rw [List.flatMap_cons, List.getElem?_append_right (by simp [c35']; omega), ← this]
    congr 1
    simp [c35']
    omega
theorem row_reads {w : World} {B : Nat} {v : Value} {ss : List S35} (h : w.ownsRow B 35 3 v ss.length (ss.flatMap c35')) : ∃ A c, v = .slice A ss.length c ∧ ss.length ≤ c ∧ Kd.C k35 w A ss.length ss := by
  rcases h.2 with ⟨rfl, h0⟩ | ⟨g, cap, cur, rfl, hg, hgb, hcap, hmax, _, _⟩
  · obtain rfl : ss = [] := List.eq_nil_of_length_eq_zero h0
    exact ⟨none, 0, rfl, Nat.le_refl _, Kd.C_nil _ _⟩
  · refine ⟨some ⟨g, 0, none⟩, cap, rfl, hcap, rfl, by unfold maxLen at hmax; omega, fun _ => ⟨_, rfl, fun j p hp => ⟨_, rfl, k35_mk w p, fun i u hu => ?_⟩⟩⟩
    have hlt : i < 3 := (List.getElem?_eq_some_iff.1 hu).1
    exact h.cells (g := g) rfl (j * 3 + i) u (flat35' ss j i p u hp hu)
end Go.Proofs.YteflfnjljjianaaGreatDoor.Qx
namespace Go.Proofs.YteflfnjljjianaaGreatDoor.Qx
open Go.RowKit Go.Proofs.YteflfnjljjianaaGreatDoorW.PrintWords Go.Proofs.YteflfnjljjianaaGreatDoorW.PrintLast Go.Proofs.YteflfnjljjianaaGreatDoorW.PrintMore
attribute [local go_sem] max2_int min2_int max_two min_two
set_option linter.unusedVariables false
set_option linter.unusedSimpArgs false
def OwnV (N : Nat) (xs : List S35) (v : Value) (X : World) : Prop := X.ownsRow N 35 3 v xs.length (xs.flatMap c35')
theorem OwnV.below {N : Nat} {xs : List S35} {v : Value} {X Y : World} (h : OwnV N xs v X) (hb : Below X.heap.size X Y) : OwnV N xs v Y := own_below h hb
def MonA (A1 : Option Addr) (c1 : Nat) (l1 : List Int) (A2 : Option Addr) (c2 : Nat) (l2 : List Int) (AT : Option Addr) (T : List S63) (b5 : Nat) (X : World) : Prop :=
  Laid X ∧ Kd.C k63 X AT T.length T ∧ Kd.C (Kd.int .u8) X A1 l1.length l1 ∧ Kd.C (Kd.int .u8) X A2 l2.length l2 ∧ X.heap[b5]? = some (.cells #[.slice A1 l1.length c1, .slice A2 l2.length c2] 23 (0, 0))
theorem MonA.below {A1 : Option Addr} {c1 : Nat} {l1 : List Int} {A2 : Option Addr} {c2 : Nat} {l2 : List Int} {AT : Option Addr} {T : List S63} {b5 : Nat} {X Y : World} (h : MonA A1 c1 l1 A2 c2 l2 AT T b5 X) (hb : Below X.heap.size X Y) : MonA A1 c1 l1 A2 c2 l2 AT T b5 Y :=
  ⟨h.1.below hb, Kd.C_below h.2.1 hb, Kd.C_below h.2.2.1 hb, Kd.C_below h.2.2.2.1 hb, blk_below h.2.2.2.2 hb⟩
def MonB (N : Nat) (AT : Option Addr) (T : List S63) (b9 : Nat) (a b n : Int) (vx vy : Value) (xs ys : List S35) (X : World) : Prop :=
  Laid X ∧ Kd.C k63 X AT T.length T ∧ X.heap[b9]? = some (.cells #[.int .i64 a, .int .i64 b, .int .i64 n] 27 (0, 0)) ∧ OwnV N xs vx X ∧ OwnV N ys vy X
theorem MonB.below {N : Nat} {AT : Option Addr} {T : List S63} {b9 : Nat} {a b n : Int} {vx vy : Value} {xs ys : List S35} {X Y : World} (h : MonB N AT T b9 a b n vx vy xs ys X) (hb : Below X.heap.size X Y) : MonB N AT T b9 a b n vx vy xs ys Y :=
  ⟨h.1.below hb, Kd.C_below h.2.1 hb, blk_below h.2.2.1 hb, h.2.2.2.1.below hb, h.2.2.2.2.below hb⟩
theorem MonB.spec {N : Nat} {AT : Option Addr} {T : List S63} {b9 : Nat} {a b n : Int} {vx vy : Value} {xs ys : List S35} {X : World} (h : MonB N AT T b9 a b n vx vy xs ys X) : X.cell? ⟨b9, 0, none⟩ = some (.int .i64 a) ∧ X.cell? ⟨b9, 1, none⟩ = some (.int .i64 b) ∧ X.cell? ⟨b9, 2, none⟩ = some (.int .i64 n) :=
  ⟨(blk_cell h.2.2.1 0).trans rfl, (blk_cell h.2.2.1 1).trans rfl, (blk_cell h.2.2.1 2).trans rfl⟩
theorem cell35 {X : World} {g : Nat} {p : S35} (h : X.heap[g]? = some (.cells #[.int .i64 p.f0, .int .i64 p.f1, .string p.f2] 35 (0, 0))) : X.cell? ⟨g, 0, none⟩ = some (.int .i64 p.f0) ∧ X.cell? ⟨g, 1, none⟩ = some (.int .i64 p.f1) ∧ X.cell? ⟨g, 2, none⟩ = some (.string p.f2) :=
  ⟨(blk_cell h 0).trans rfl, (blk_cell h 1).trans rfl, (blk_cell h 2).trans rfl⟩
theorem OwnV.at0 {N : Nat} {xs : List S35} {A : Option Addr} {c : Nat} {X : World} (h : OwnV N xs (.slice A xs.length c) X) (hn : 0 < xs.length) : ∃ g, A = some ⟨g, 0, none⟩ ∧ N ≤ g := by
  rcases h.2 with ⟨h1, h2⟩ | ⟨g, cap, cur, h1, hg, _⟩
  · omega
  · injection h1 with h1
    exact ⟨g, h1, hg⟩
theorem OwnV.reads {N : Nat} {xs : List S35} {A : Option Addr} {c : Nat} {X : World} (h : OwnV N xs (.slice A xs.length c) X) : Kd.C k35 X A xs.length xs ∧ xs.length ≤ c := by
  obtain ⟨A', c', e, h1, h2⟩ := row_reads h
  injection e with e1 _ e2
  subst e1 e2
  exact ⟨h2, h1⟩
theorem own35 {N : Nat} {xs : List S35} {g c m : Nat} {X : World} (h : OwnV N xs (.slice (some ⟨g, 0, none⟩) xs.length c) X) (hm : m < xs.length) : X.cell? ⟨g, m * 3, none⟩ = some (.int .i64 (rd_T35 xs (m : Int)).f0) ∧
    X.cell? ⟨g, m * 3 + 1, none⟩ = some (.int .i64 (rd_T35 xs (m : Int)).f1) ∧ X.cell? ⟨g, m * 3 + 2, none⟩ = some (.string (rd_T35 xs (m : Int)).f2) := by
  obtain ⟨ad, e, t0, t1, t2⟩ := at_T35 h.reads.1 (m : Int) (by omega) (by omega)
  injection e with e
  subst e
  simp only [Int.toNat_natCast, Addr.add_lit, Nat.zero_add] at t0 t1 t2
  exact ⟨t0, t1, t2⟩
theorem OwnV.frozen {N : Nat} {xs : List S35} {g c : Nat} {X : World} (h : OwnV N xs (.slice (some ⟨g, 0, none⟩) xs.length c) X) (j : Nat) : X.frozen? ⟨g, j, none⟩ = false := World.ownsRow.frozenAt h j
theorem flat_set3 (x : S35) : ∀ (L : List S35) (i : Nat), i < L.length → (((L.flatMap c35').set (i * 3) (.int .i64 x.f0)).set (i * 3 + 1) (.int .i64 x.f1)).set (i * 3 + 2) (.string x.f2) = (L.set i x).flatMap c35'
  | [], _, h => absurd h (by simp)
  | y :: L, 0, _ => by simp [c35']
  | y :: L, i + 1, h => by
    have ih := flat_set3 x L i (by simpa using h)
    simp only [List.flatMap_cons, List.set_cons_succ, ← ih]
    simp only [show (i + 1) * 3 = i * 3 + 3 by omega, show i * 3 + 3 + 1 = i * 3 + 1 + 3 by omega, show i * 3 + 3 + 2 = i * 3 + 2 + 3 by omega]
    simp only [c35', List.cons_append, List.nil_append, List.set_cons_succ]
def putMon (X : World) (g m : Nat) (p : S35) : World := ((X.setCell ⟨g, m * 3, none⟩ (.int .i64 p.f0)).setCell ⟨g, m * 3 + 1, none⟩ (.int .i64 p.f1)).setCell ⟨g, m * 3 + 2, none⟩ (.string p.f2)
theorem OwnV.put {N : Nat} {xs : List S35} {g c m : Nat} {X : World} (h : OwnV N xs (.slice (some ⟨g, 0, none⟩) xs.length c) X) (hm : m < xs.length) (p : S35) : OwnV N (xs.set m p) (.slice (some ⟨g, 0, none⟩) (xs.set m p).length c) (putMon X g m p) := by
  have h1 := ((((World.ownsRow.stored h (m * 3) (.int .i64 p.f0)).1.stored (m * 3 + 1) (.int .i64 p.f1)).1).stored (m * 3 + 2) (.string p.f2)).1
  unfold OwnV putMon
  rw [← flat_set3 p xs m hm, List.length_set]
  exact h1
theorem OwnV.lt {N : Nat} {xs : List S35} {g c : Nat} {X : World} (h : OwnV N xs (.slice (some ⟨g, 0, none⟩) xs.length c) X) : g < X.heap.size := (World.ownsRow.lt h g rfl).2
theorem OwnV.blk {N : Nat} {xs : List S35} {g c : Nat} {X : World} (h : OwnV N xs (.slice (some ⟨g, 0, none⟩) xs.length c) X) : ∃ cur, X.heap[g]? = some (.cells cur 35 (0, 0)) := by
  rcases h.2 with ⟨h1, _⟩ | ⟨g', cap, cur, h1, _, hg, _⟩
  · cases h1
  · injection h1 with h1
    injection h1 with h1
    injection h1 with h1
    exact ⟨cur, h1 ▸ hg⟩
theorem putMon_far {X : World} {g g' m : Nat} {p : S35} {t : TypeId} {cs : Array Value} (h : X.heap[g']? = some (.cells cs t (0, 0))) (hne : g' ≠ g) : (putMon X g m p).heap[g']? = some (.cells cs t (0, 0)) :=
  blk_far (blk_far (blk_far h hne _) hne _) hne _
theorem cell27 {X : World} {g : Nat} {a b n : Int} (h : X.heap[g]? = some (.cells #[.int .i64 a, .int .i64 b, .int .i64 n] 27 (0, 0))) : X.cell? ⟨g, 0, none⟩ = some (.int .i64 a) ∧ X.cell? ⟨g, 1, none⟩ = some (.int .i64 b) ∧ X.cell? ⟨g, 2, none⟩ = some (.int .i64 n) :=
  ⟨(blk_cell h 0).trans rfl, (blk_cell h 1).trans rfl, (blk_cell h 2).trans rfl⟩
attribute [local go_sem high] eqA35
def monRel6 (N b5 : Nat) (AT : Option Addr) (nT cT : Nat) (A1 : Option Addr) (n1 c1 : Nat) (A2 : Option Addr) (n2 c2 : Nat) (xs ys : List S35) (i : Nat) (v : Value) (X : World) : Prop := match i with
  | 0 => v = .slice AT nT cT
  | 1 => v = .pointer (some ⟨b5, 0, none⟩)
  | 2 => v = .slice A1 n1 c1
  | 3 => OwnV N xs v X
  | 4 => v = .slice AT nT cT
  | 5 => v = .pointer (some ⟨b5, 1, none⟩)
  | 6 => v = .slice A2 n2 c2
  | 7 => OwnV N ys v X
  | 8 => OwnV N xs v X
  | 9 => OwnV N ys v X
  | _ => True
theorem monRel6.stable (N b5 : Nat) (AT : Option Addr) (nT cT : Nat) (A1 : Option Addr) (n1 c1 : Nat) (A2 : Option Addr) (n2 c2 : Nat) (xs ys : List S35) : ∀ i v X Y, Below X.heap.size X Y → monRel6 N b5 AT nT cT A1 n1 c1 A2 n2 c2 xs ys i v X → monRel6 N b5 AT nT cT A1 n1 c1 A2 n2 c2 xs ys i v Y := by
  intro i v X Y hb h
  match i, h with
  | 0, h => exact h
  | 1, h => exact h
  | 2, h => exact h
  | 3, h => exact OwnV.below h hb
  | 4, h => exact h
  | 5, h => exact h
  | 6, h => exact h
  | 7, h => exact OwnV.below h hb
  | 8, h => exact OwnV.below h hb
  | 9, h => exact OwnV.below h hb
  | i + 10, _ => exact trivial
end Go.Proofs.YteflfnjljjianaaGreatDoor.Qx
namespace Go.Proofs.YteflfnjljjianaaGreatDoor.Qx
open Go.RowKit Go.Proofs.YteflfnjljjianaaGreatDoorW.PrintWords Go.Proofs.YteflfnjljjianaaGreatDoorW.PrintLast Go.Proofs.YteflfnjljjianaaGreatDoorW.PrintMore
attribute [local go_sem] max2_int min2_int max_two min_two
set_option linter.unusedVariables false
set_option linter.unusedSimpArgs false
structure LaidN (w : World) : Prop where
  l : Laid w
  n0 : w.cell? ⟨0, 0, none⟩ = some (.int .i64 0)
  n1 : w.cell? ⟨0, 1, none⟩ = some (.int .i64 0)
  n2 : w.cell? ⟨0, 2, none⟩ = some (.string ⟨#[]⟩)
theorem LaidN.below {w w' : World} (h : LaidN w) (hb : Below w.heap.size w w') : LaidN w' := by
  have hl := h.l.lt
  exact ⟨h.l.below hb, (hb.cell (p := ⟨0, 0, none⟩) (by show 0 < w.heap.size; omega)).trans h.n0, (hb.cell (p := ⟨0, 1, none⟩) (by show 0 < w.heap.size; omega)).trans h.n1, (hb.cell (p := ⟨0, 2, none⟩) (by show 0 < w.heap.size; omega)).trans h.n2⟩
attribute [local go_sem high] eqA35 eqA82
set_option maxRecDepth 100000 in
set_option maxHeartbeats 4000000 in
theorem bounds_Valid.none (n : Int) (w : World) (hn0 : 0 ≤ n) (hn1 : n ≤ 4000000000000000000) :
    Calls Tryz.prog 35 #[.agg #[.int .i64 n, .bool false, .int .i64 0, .int .i64 0, .string ⟨#[]⟩, .int .i64 0, .int .i64 0, .string ⟨#[]⟩, .int .i64 0]] w fun e w' => e = .returned (.bool true) ∧ Below w.heap.size w w' := by
  have hu82 := Tryz.underlying82
  have hu35 := Tryz.underlying35
  have d0 : decide (n < 0) = false := decide_eq_false (by omega)
  have d1 : decide (n > 4000000000000000000) = false := decide_eq_false (by omega)
  have d2 : decide (4000000000000000000 < n) = false := d1
  go_enter Tryz.func35, Tryz.ntmps35
  go_wp2
  go_ret
  exact ⟨rfl, below_alloc (Below.refl w.heap.size w) _⟩
set_option maxRecDepth 100000 in
set_option maxHeartbeats 4000000 in
theorem bounds_Valid.has (k : Nat) (n a0 a1 : Int) (a2 : ByteArray) (b1 : Int) (b2 : ByteArray) (c : Int) (w : World) (hG : LaidN w) (hn0 : 0 ≤ n) (hn1 : n ≤ 4000000000000000000) (hw1 : value_Wide.f k a0 a1 a2 = some true) (hw2 : value_Wide.f k a0 b1 b2 = some true) (hne : a0 ≠ 0)
    (hc : value_Cmp.f k a0 a1 a2 a0 b1 b2 = some c) (hc0 : c ≤ 0) :
    Calls Tryz.prog 35 #[.agg #[.int .i64 n, .bool true, .int .i64 a0, .int .i64 a1, .string a2, .int .i64 a0, .int .i64 b1, .string b2, .int .i64 0]] w fun e w' => e = .returned (.bool true) ∧ Below w.heap.size w w' := by
  have hu82 := Tryz.underlying82
  have hu35 := Tryz.underlying35
  have d0 : decide (n < 0) = false := decide_eq_false (by omega)
  have d1 : decide (n > 4000000000000000000) = false := decide_eq_false (by omega)
  have d2 : decide (4000000000000000000 < n) = false := d1
  have z0 : (a0 == 0) = false := by simpa using hne
  have HC := Lib.hid hc
  have HW2 := Lib.hid hw2
  have HC0 := Lib.hid hc0
  have H1 := heap_alloc_new w (.cells #[.int .i64 n, .bool true, .int .i64 a0, .int .i64 a1, .string a2, .int .i64 a0, .int .i64 b1, .string b2, .int .i64 0] 82)
  have HB := below_alloc (Below.refl w.heap.size w) (.cells #[.int .i64 n, .bool true, .int .i64 a0, .int .i64 a1, .string a2, .int .i64 a0, .int .i64 b1, .string b2, .int .i64 0] 82)
  have HG := hG.below HB
  clear hc hw2 hc0 hG
  go_enter Tryz.func35, Tryz.ntmps35
  go_wp2_with fail
  generalize w.alloc (.cells #[.int .i64 n, .bool true, .int .i64 a0, .int .i64 a1, .string a2, .int .i64 a0, .int .i64 b1, .string b2, .int .i64 0] 82) = W at *
  replace HB := Lib.hid HB
  replace HG := Lib.hid HG
  replace H1 := Lib.hid H1
  refine (value_Wide.calls k _ _ _ _ _ hw1).mono ?_
  rintro e w1 ⟨rfl, hb⟩
  replace HG := Lib.hid (HG.out.below (hb.mono (by skip; exact Nat.le_refl _)))
  replace HB := Lib.hid (below_step HB.out hb)
  replace H1 := Lib.hid (blk_below H1.out hb)
  clear hb hw1
  have m5 := blk_cell H1.out 5
  have m6 := blk_cell H1.out 6
  have m7 := blk_cell H1.out 7
  go_wp2_with fail
  refine (value_Wide.calls k _ _ _ _ _ HW2.out).mono ?_
  rintro e w2 ⟨rfl, hb⟩
  replace HG := Lib.hid (HG.out.below hb)
  replace HB := Lib.hid (below_step HB.out hb)
  replace H1 := Lib.hid (blk_below H1.out hb)
  clear hb m5 m6 m7 W
  have m2 := blk_cell H1.out 2
  have m3 := blk_cell H1.out 3
  have m4 := blk_cell H1.out 4
  have m5 := blk_cell H1.out 5
  have m6 := blk_cell H1.out 6
  have m7 := blk_cell H1.out 7
  have q0 := HG.out.n0
  have q1 := HG.out.n1
  have q2 := HG.out.n2
  go_wp2_with fail
  refine (value_Cmp.calls k _ _ _ _ _ _ _ _ HC.out).mono ?_
  rintro e w3 ⟨rfl, hb⟩
  replace HB := Lib.hid (below_step HB.out hb)
  replace H1 := Lib.hid (blk_below H1.out hb)
  clear hb m2 m3 m4 m5 m6 m7 q0 q1 q2
  have m8 := blk_cell H1.out 8
  have hd : decide (c ≤ 0) = true := decide_eq_true HC0.out
  go_wp2
  all_goals
    go_ret
    exact ⟨rfl, HB.out⟩
end Go.Proofs.YteflfnjljjianaaGreatDoor.Qx
namespace Go.Proofs.YteflfnjljjianaaGreatDoor.Qx
open Go.RowKit Go.Proofs.YteflfnjljjianaaGreatDoorW.PrintWords Go.Proofs.YteflfnjljjianaaGreatDoorW.PrintLast Go.Proofs.YteflfnjljjianaaGreatDoorW.PrintMore
attribute [local go_sem] max2_int min2_int max_two min_two
set_option linter.unusedVariables false
set_option linter.unusedSimpArgs false
attribute [local go_sem high] eqA35 eqA82
def bounds_Contains.g (k : Nat) (n : Int) (has : Bool) (a0 a1 : Int) (a2 : ByteArray) (b1 : Int) (b2 : ByteArray) (v0 v1 : Int) (v2 : ByteArray) : Option Bool :=
  if (v0 == 0 && (v1 == 0 && v2.toList.isEmpty)) = true then some (decide (0 < n)) else if has = false then some false else if v0 ≠ a0 then some false else
  (value_Cmp.f k a0 a1 a2 v0 v1 v2).bind fun c => if 0 < c then some false else (value_Cmp.f k v0 v1 v2 a0 b1 b2).map fun d => decide (d ≤ 0)
set_option maxRecDepth 100000 in
set_option maxHeartbeats 8000000 in
theorem bounds_Contains.calls (k : Nat) (n : Int) (has : Bool) (a0 a1 : Int) (a2 : ByteArray) (b1 : Int) (b2 : ByteArray) (v0 v1 : Int) (v2 : ByteArray) (r : Bool) (w : World) (hG : LaidN w)
    (hV : ∀ X : World, LaidN X → Calls Tryz.prog 35 #[.agg #[.int .i64 n, .bool has, .int .i64 a0, .int .i64 a1, .string a2, .int .i64 a0, .int .i64 b1, .string b2, .int .i64 0]] X fun e w' => e = .returned (.bool true) ∧ Below X.heap.size X w')
    (hw : value_Wide.f k v0 v1 v2 = some true) (h : bounds_Contains.g k n has a0 a1 a2 b1 b2 v0 v1 v2 = some r) :
    Calls Tryz.prog 36 #[.agg #[.int .i64 n, .bool has, .int .i64 a0, .int .i64 a1, .string a2, .int .i64 a0, .int .i64 b1, .string b2, .int .i64 0], .agg #[.int .i64 v0, .int .i64 v1, .string v2]] w fun e w' => e = .returned (.bool r) ∧ Below w.heap.size w w' := by
  have hu82 := Tryz.underlying82
  have hu35 := Tryz.underlying35
  have H1 := blk_alloc (heap_alloc_new w (.cells #[.int .i64 n, .bool has, .int .i64 a0, .int .i64 a1, .string a2, .int .i64 a0, .int .i64 b1, .string b2, .int .i64 0] 82)) (.cells #[.int .i64 v0, .int .i64 v1, .string v2] 35)
  have H2 := heap_alloc_new (w.alloc (.cells #[.int .i64 n, .bool has, .int .i64 a0, .int .i64 a1, .string a2, .int .i64 a0, .int .i64 b1, .string b2, .int .i64 0] 82)) (.cells #[.int .i64 v0, .int .i64 v1, .string v2] 35)
  have HB := below_alloc (below_alloc (Below.refl w.heap.size w) (.cells #[.int .i64 n, .bool has, .int .i64 a0, .int .i64 a1, .string a2, .int .i64 a0, .int .i64 b1, .string b2, .int .i64 0] 82)) (.cells #[.int .i64 v0, .int .i64 v1, .string v2] 35)
  have HG := hG.below HB
  rw [World.size_alloc] at H2
  have HW := Lib.hid hw
  have HH := Lib.hid h
  clear hG h hw
  go_enter Tryz.func36, Tryz.ntmps36
  go_wp2_with fail
  generalize (w.alloc (.cells #[.int .i64 n, .bool has, .int .i64 a0, .int .i64 a1, .string a2, .int .i64 a0, .int .i64 b1, .string b2, .int .i64 0] 82)).alloc (.cells #[.int .i64 v0, .int .i64 v1, .string v2] 35) = W at *
  replace HB := Lib.hid HB
  replace HG := Lib.hid HG
  replace H1 := Lib.hid H1
  replace H2 := Lib.hid H2
  refine (hV W HG.out).mono ?_
  rintro e w1 ⟨rfl, hb⟩
  replace HG := Lib.hid (HG.out.below hb)
  replace HB := Lib.hid (below_step HB.out hb)
  replace H1 := Lib.hid (blk_below H1.out hb)
  replace H2 := Lib.hid (blk_below H2.out hb)
  clear hb hV W
  have m0 := blk_cell H2.out 0
  have m1 := blk_cell H2.out 1
  have m2 := blk_cell H2.out 2
  go_wp2_with fail
  refine (value_Wide.calls k _ _ _ _ _ HW.out).mono ?_
  rintro e w2 ⟨rfl, hb⟩
  replace HG := Lib.hid (HG.out.below hb)
  replace HB := Lib.hid (below_step HB.out hb)
  replace H1 := Lib.hid (blk_below H1.out hb)
  replace H2 := Lib.hid (blk_below H2.out hb)
  clear hb m0 m1 m2 w1 HW
  have m0 := blk_cell H2.out 0
  have m1 := blk_cell H2.out 1
  have m2 := blk_cell H2.out 2
  have q0 := HG.out.n0
  have q1 := HG.out.n1
  have q2 := HG.out.n2
  have k0 := blk_cell H1.out 0
  have k1 := blk_cell H1.out 1
  have k2 := blk_cell H1.out 2
  have k3 := blk_cell H1.out 3
  have k4 := blk_cell H1.out 4
  obtain ⟨z, hz⟩ : ∃ z, (v0 == 0 && (v1 == 0 && v2.toList.isEmpty)) = z := ⟨_, rfl⟩
  have h := HH.out
  unfold bounds_Contains.g at h
  rw [hz] at h
  cases z with
  | true =>
    rw [if_pos rfl] at h
    obtain rfl := Option.some.inj h
    clear h HH
    go_wp2
    go_ret
    exact ⟨rfl, HB.out⟩
  | false =>
    rw [if_neg (by decide)] at h
    cases has with
    | false =>
      rw [if_pos rfl] at h
      obtain rfl := Option.some.inj h
      clear h HH
      go_wp2
      go_ret
      exact ⟨rfl, HB.out⟩
    | true =>
      rw [if_neg (by decide)] at h
      by_cases he : v0 = a0
      · subst he
        rw [if_neg (by simp)] at h
        obtain ⟨c, hc, h⟩ := Option.bind_eq_some_iff.1 h
        have HC := Lib.hid hc
        replace HH := Lib.hid h
        clear hc h
        go_wp2_with fail
        refine (value_Cmp.calls k _ _ _ _ _ _ _ _ HC.out).mono ?_
        rintro e w3 ⟨rfl, hb⟩
        replace HB := Lib.hid (below_step HB.out hb)
        replace H1 := Lib.hid (blk_below H1.out hb)
        replace H2 := Lib.hid (blk_below H2.out hb)
        clear hb m0 m1 m2 q0 q1 q2 k0 k1 k2 k3 k4 HG
        have m0 := blk_cell H2.out 0
        have m1 := blk_cell H2.out 1
        have m2 := blk_cell H2.out 2
        have k5 := blk_cell H1.out 5
        have k6 := blk_cell H1.out 6
        have k7 := blk_cell H1.out 7
        have h := HH.out
        clear HH
        by_cases hc0 : c ≤ 0
        · have hd : decide (c ≤ 0) = true := decide_eq_true hc0
          rw [if_neg (by omega)] at h
          obtain ⟨d, hd', rfl⟩ := Option.map_eq_some_iff.1 h
          have HD := Lib.hid hd'
          clear hd' h
          go_wp2_with fail
          refine (value_Cmp.calls k _ _ _ _ _ _ _ _ HD.out).mono ?_
          rintro e w4 ⟨rfl, hb⟩
          replace HB := Lib.hid (below_step HB.out hb)
          clear hb
          go_wp2
          go_ret
          exact ⟨rfl, HB.out⟩
        · have hd : decide (c ≤ 0) = false := decide_eq_false hc0
          rw [if_pos (by omega)] at h
          obtain rfl := Option.some.inj h
          clear h
          go_wp2
          go_ret
          exact ⟨rfl, HB.out⟩
      · rw [if_pos he] at h
        obtain rfl := Option.some.inj h
        have he' : (v0 == a0) = false := by simpa using he
        clear h HH
        go_wp2
        go_ret
        exact ⟨rfl, HB.out⟩
end Go.Proofs.YteflfnjljjianaaGreatDoor.Qx
