/- Part of a proof of PartitionBoundsCardSaid: functions of the given program and what they compute, each checked by the kernel. -/
import Derived.Test.YteflfnjljjianaaGreatDoorPB02
import Derived.Test.YteflfnjljjianaaGreatDoorPB07
import Derived.Test.YteflfnjljjianaaGreatDoorPB08
namespace Go.Proofs.YteflfnjljjianaaGreatDoor.Qx
open Go.RowKit Go.Proofs.YteflfnjljjianaaGreatDoorW.PrintWords Go.Proofs.YteflfnjljjianaaGreatDoorW.PrintLast Go.Proofs.YteflfnjljjianaaGreatDoorW.PrintMore
attribute [local go_sem] max2_int min2_int max_two min_two
set_option linter.unusedVariables false
set_option linter.unusedSimpArgs false
attribute [local go_sem high] eqA35
def bounds_span_single.f (a0_0 : Bool) (a0_1 : Bool) (a0_2 : Int) (a0_3 : Int) (a0_4 : ByteArray) (a0_5 : Int) (a0_6 : Int) (a0_7 : ByteArray) : Option (Bool) := some (a0_2 == a0_5 && (a0_3 == a0_6 && (a0_4.toList == a0_7.toList)))
set_option maxHeartbeats 8000000 in
set_option maxRecDepth 100000 in
theorem bounds_span_single.calls (a0_0 : Bool) (a0_1 : Bool) (a0_2 : Int) (a0_3 : Int) (a0_4 : ByteArray) (a0_5 : Int) (a0_6 : Int) (a0_7 : ByteArray) (r : Bool) (w : World) (h : bounds_span_single.f a0_0 a0_1 a0_2 a0_3 a0_4 a0_5 a0_6 a0_7 = some r) :
    Calls Tryz.prog 200 #[.agg #[.bool a0_0, .bool a0_1, .int .i64 a0_2, .int .i64 a0_3, .string a0_4, .int .i64 a0_5, .int .i64 a0_6, .string a0_7]] w fun e w' => e = .returned (.bool r) ∧ Below w.heap.size w w' := by
  have hu161 := Tryz.underlying161
  have hu35 := Tryz.underlying35
  have HB := Aside0.mk (Below.refl w.heap.size w)
  have H : (some (a0_2 == a0_5 && (a0_3 == a0_6 && (a0_4.toList == a0_7.toList)))) = some r := h
  clear h
  obtain rfl := Option.some.inj H
  go_enter Tryz.func200, Tryz.ntmps200
  go_wp2_with (first | ((with_reducible refine gate_dst (N := 1) rfl ?_); refine box_event ?hg (N := 1) ?hd (cs := #[.bool a0_0, .bool a0_1, .int .i64 a0_2, .int .i64 a0_3, .string a0_4, .int .i64 a0_5, .int .i64 a0_6, .string a0_7]) (t := 161) ?hr ?_; (case hd => rfl); (case hg => rfl); (case hr => first | (go_simp; done) | (go_simp; rfl)); intro gb101 hg w2 hbox hb; have n0_ := Aside0.mk (below_step (by repeat (first | (with_reducible first | exact HB.out | apply below_alloc | apply pw_below_drewN | apply below_drew1) | exact HB.out)) hb); have n1_ := Aside0.mk (hbox); have n2_ := Aside0.mk ((by rw [hg]; exact (below_size (by repeat (first | (with_reducible first | exact HB.out | apply below_alloc | apply pw_below_drewN | apply below_drew1) | exact HB.out))) : w.heap.size ≤ gb101)); have n3_ := Aside0.mk ((by rw [hg]; exact (below_size (by repeat (first | (with_reducible first | exact HB.out | apply below_alloc | apply pw_below_drewN | apply below_drew1) | exact HB.out))) : w.heap.size ≤ gb101)); clear HB; have HB := n0_; have BK101 := n1_; have GW101 := n2_; have GE101 := n3_; clear n0_ n1_ n2_ n3_; clear hb hbox hg; have hcz3_0 : w2.cell? ⟨gb101, 0, none⟩ = some (.bool a0_0) := (blk_cell BK101.out 0).trans rfl; have hcz3_1 : w2.cell? ⟨gb101, 1, none⟩ = some (.bool a0_1) := (blk_cell BK101.out 1).trans rfl; have hcz3_2 : w2.cell? ⟨gb101, 2, none⟩ = some (.int .i64 a0_2) := (blk_cell BK101.out 2).trans rfl; have hcz3_3 : w2.cell? ⟨gb101, 3, none⟩ = some (.int .i64 a0_3) := (blk_cell BK101.out 3).trans rfl; have hcz3_4 : w2.cell? ⟨gb101, 4, none⟩ = some (.string a0_4) := (blk_cell BK101.out 4).trans rfl; have hcz3_5 : w2.cell? ⟨gb101, 5, none⟩ = some (.int .i64 a0_5) := (blk_cell BK101.out 5).trans rfl; have hcz3_6 : w2.cell? ⟨gb101, 6, none⟩ = some (.int .i64 a0_6) := (blk_cell BK101.out 6).trans rfl; have hcz3_7 : w2.cell? ⟨gb101, 7, none⟩ = some (.string a0_7) := (blk_cell BK101.out 7).trans rfl; have hfz3_0 := blk_frozen BK101.out 0; have hfz3_1 := blk_frozen BK101.out 1; have hfz3_2 := blk_frozen BK101.out 2; have hfz3_3 := blk_frozen BK101.out 3; have hfz3_4 := blk_frozen BK101.out 4; have hfz3_5 := blk_frozen BK101.out 5; have hfz3_6 := blk_frozen BK101.out 6; have hfz3_7 := blk_frozen BK101.out 7))
  go_ret
  exact ⟨by first | rfl | (simp [errW_none, errW_some] <;> rfl) | (simp [*, errW_none, errW_some] <;> rfl), by repeat (first | (with_reducible first | exact HB.out | apply below_alloc | apply pw_below_drewN | apply below_drew1 | refine below_set ?_ GE101.out) | exact HB.out)⟩
end Go.Proofs.YteflfnjljjianaaGreatDoor.Qx
namespace Go.Proofs.YteflfnjljjianaaGreatDoor.Qx
open Go.RowKit Go.Proofs.YteflfnjljjianaaGreatDoorW.PrintWords Go.Proofs.YteflfnjljjianaaGreatDoorW.PrintLast Go.Proofs.YteflfnjljjianaaGreatDoorW.PrintMore
attribute [local go_sem] max2_int min2_int max_two min_two
set_option linter.unusedVariables false
set_option linter.unusedSimpArgs false
attribute [local go_sem high] eqA35
set_option maxRecDepth 100000 in
set_option maxHeartbeats 8000000 in
theorem bounds_span_equal.less (K : Nat) (n0 h0 : Bool) (a0 a1 : Int) (a2 : ByteArray) (b0 b1 : Int) (b2 : ByteArray) (n1 h1 : Bool) (c0 c1 : Int) (c2 : ByteArray) (d0 d1 : Int) (d2 : ByteArray) (p q : Int) (s1 s2 eq : Bool)
    (e1 : decide (p < 0) = true) (H1 : value_Cmp.f K b0 b1 b2 c0 c1 c2 = some p)
    (e3 : (a0 == b0 && (a1 == b1 && (a2.toList == b2.toList))) = s1) (e4 : (c0 == d0 && (c1 == d1 && (c2.toList == d2.toList))) = s2) (e5 : (a0 == c0 && (a1 == c1 && (a2.toList == c2.toList))) = eq)
    (r0 r1 : Bool) (r2 r3 : Int) (r4 : ByteArray) (r5 r6 : Int) (r7 : ByteArray) (HT : bounds_truth.f (!(s1 && s2 && eq)) (false) false = some (r0, r1, r2, r3, r4, r5, r6, r7)) (w : World) :
    Calls Tryz.prog 185 #[.agg #[.bool n0, .bool h0, .int .i64 a0, .int .i64 a1, .string a2, .int .i64 b0, .int .i64 b1, .string b2], .agg #[.bool n1, .bool h1, .int .i64 c0, .int .i64 c1, .string c2, .int .i64 d0, .int .i64 d1, .string d2]] w fun e w' => e = .returned (.agg #[.bool r0, .bool r1, .int .i64 r2, .int .i64 r3, .string r4, .int .i64 r5, .int .i64 r6, .string r7]) ∧ Below w.heap.size w w' := by
  have hu161 := Tryz.underlying161
  have hu35 := Tryz.underlying35
  go_enter Tryz.func185, Tryz.ntmps185
  go_wp2_with fail
  have K0 := blk_alloc (blk_alloc (heap_alloc_new w (.cells #[.bool n0, .bool h0, .int .i64 a0, .int .i64 a1, .string a2, .int .i64 b0, .int .i64 b1, .string b2] 161)) (.cells #[.bool n1, .bool h1, .int .i64 c0, .int .i64 c1, .string c2, .int .i64 d0, .int .i64 d1, .string d2] 161)) (.cells #[.bool false, .bool false, .int .i64 0, .int .i64 0, .string ⟨#[]⟩, .int .i64 0, .int .i64 0, .string ⟨#[]⟩] 161)
  have K1 := blk_alloc (heap_alloc_new (w.alloc (.cells #[.bool n0, .bool h0, .int .i64 a0, .int .i64 a1, .string a2, .int .i64 b0, .int .i64 b1, .string b2] 161)) (.cells #[.bool n1, .bool h1, .int .i64 c0, .int .i64 c1, .string c2, .int .i64 d0, .int .i64 d1, .string d2] 161)) (.cells #[.bool false, .bool false, .int .i64 0, .int .i64 0, .string ⟨#[]⟩, .int .i64 0, .int .i64 0, .string ⟨#[]⟩] 161)
  have K2 := heap_alloc_new ((w.alloc (.cells #[.bool n0, .bool h0, .int .i64 a0, .int .i64 a1, .string a2, .int .i64 b0, .int .i64 b1, .string b2] 161)).alloc (.cells #[.bool n1, .bool h1, .int .i64 c0, .int .i64 c1, .string c2, .int .i64 d0, .int .i64 d1, .string d2] 161)) (.cells #[.bool false, .bool false, .int .i64 0, .int .i64 0, .string ⟨#[]⟩, .int .i64 0, .int .i64 0, .string ⟨#[]⟩] 161)
  have hB := Lib.hid ((((Below.refl _ w).alloc (Nat.le_refl _) (.cells #[.bool n0, .bool h0, .int .i64 a0, .int .i64 a1, .string a2, .int .i64 b0, .int .i64 b1, .string b2] 161)).alloc (by simp only [World.size_alloc]; omega) (.cells #[.bool n1, .bool h1, .int .i64 c0, .int .i64 c1, .string c2, .int .i64 d0, .int .i64 d1, .string d2] 161)).alloc (by simp only [World.size_alloc]; omega) (.cells #[.bool false, .bool false, .int .i64 0, .int .i64 0, .string ⟨#[]⟩, .int .i64 0, .int .i64 0, .string ⟨#[]⟩] 161))
  simp only [World.size_alloc] at K1 K2
  generalize ((w.alloc (.cells #[.bool n0, .bool h0, .int .i64 a0, .int .i64 a1, .string a2, .int .i64 b0, .int .i64 b1, .string b2] 161)).alloc (.cells #[.bool n1, .bool h1, .int .i64 c0, .int .i64 c1, .string c2, .int .i64 d0, .int .i64 d1, .string d2] 161)).alloc (.cells #[.bool false, .bool false, .int .i64 0, .int .i64 0, .string ⟨#[]⟩, .int .i64 0, .int .i64 0, .string ⟨#[]⟩] 161) = W at *
  have k0_0 : W.cell? ⟨w.heap.size, 0, none⟩ = some (.bool n0) := (blk_cell K0 0).trans rfl
  have k0_1 : W.cell? ⟨w.heap.size, 1, none⟩ = some (.bool h0) := (blk_cell K0 1).trans rfl
  have k0_2 : W.cell? ⟨w.heap.size, 2, none⟩ = some (.int .i64 a0) := (blk_cell K0 2).trans rfl
  have k0_3 : W.cell? ⟨w.heap.size, 3, none⟩ = some (.int .i64 a1) := (blk_cell K0 3).trans rfl
  have k0_4 : W.cell? ⟨w.heap.size, 4, none⟩ = some (.string a2) := (blk_cell K0 4).trans rfl
  have k0_5 : W.cell? ⟨w.heap.size, 5, none⟩ = some (.int .i64 b0) := (blk_cell K0 5).trans rfl
  have k0_6 : W.cell? ⟨w.heap.size, 6, none⟩ = some (.int .i64 b1) := (blk_cell K0 6).trans rfl
  have k0_7 : W.cell? ⟨w.heap.size, 7, none⟩ = some (.string b2) := (blk_cell K0 7).trans rfl
  have k1_0 : W.cell? ⟨w.heap.size + 1, 0, none⟩ = some (.bool n1) := (blk_cell K1 0).trans rfl
  have k1_1 : W.cell? ⟨w.heap.size + 1, 1, none⟩ = some (.bool h1) := (blk_cell K1 1).trans rfl
  have k1_2 : W.cell? ⟨w.heap.size + 1, 2, none⟩ = some (.int .i64 c0) := (blk_cell K1 2).trans rfl
  have k1_3 : W.cell? ⟨w.heap.size + 1, 3, none⟩ = some (.int .i64 c1) := (blk_cell K1 3).trans rfl
  have k1_4 : W.cell? ⟨w.heap.size + 1, 4, none⟩ = some (.string c2) := (blk_cell K1 4).trans rfl
  have k1_5 : W.cell? ⟨w.heap.size + 1, 5, none⟩ = some (.int .i64 d0) := (blk_cell K1 5).trans rfl
  have k1_6 : W.cell? ⟨w.heap.size + 1, 6, none⟩ = some (.int .i64 d1) := (blk_cell K1 6).trans rfl
  have k1_7 : W.cell? ⟨w.heap.size + 1, 7, none⟩ = some (.string d2) := (blk_cell K1 7).trans rfl
  replace K2 := Lib.hid K2
  clear K0 K1
  go_wp2_with fail
  refine (value_Cmp.calls K b0 b1 b2 c0 c1 c2 p _ H1).mono ?_
  rintro e w1 ⟨rfl, hbn⟩
  replace k0_0 := pw_cell_below hbn k0_0
  replace k0_1 := pw_cell_below hbn k0_1
  replace k0_2 := pw_cell_below hbn k0_2
  replace k0_3 := pw_cell_below hbn k0_3
  replace k0_4 := pw_cell_below hbn k0_4
  replace k0_5 := pw_cell_below hbn k0_5
  replace k0_6 := pw_cell_below hbn k0_6
  replace k0_7 := pw_cell_below hbn k0_7
  replace k1_0 := pw_cell_below hbn k1_0
  replace k1_1 := pw_cell_below hbn k1_1
  replace k1_2 := pw_cell_below hbn k1_2
  replace k1_3 := pw_cell_below hbn k1_3
  replace k1_4 := pw_cell_below hbn k1_4
  replace k1_5 := pw_cell_below hbn k1_5
  replace k1_6 := pw_cell_below hbn k1_6
  replace k1_7 := pw_cell_below hbn k1_7
  replace K2 := Lib.hid (blk_below K2.out hbn)
  replace hB := Lib.hid (below_then hB.out hB.out.size hbn)
  clear hbn
  go_wp2_with fail
  refine (bounds_span_single.calls n0 h0 a0 a1 a2 b0 b1 b2 s1 _ (congrArg some e3)).mono ?_
  rintro e w2 ⟨rfl, hbn⟩
  replace k0_0 := pw_cell_below hbn k0_0
  replace k0_1 := pw_cell_below hbn k0_1
  replace k0_2 := pw_cell_below hbn k0_2
  replace k0_3 := pw_cell_below hbn k0_3
  replace k0_4 := pw_cell_below hbn k0_4
  replace k0_5 := pw_cell_below hbn k0_5
  replace k0_6 := pw_cell_below hbn k0_6
  replace k0_7 := pw_cell_below hbn k0_7
  replace k1_0 := pw_cell_below hbn k1_0
  replace k1_1 := pw_cell_below hbn k1_1
  replace k1_2 := pw_cell_below hbn k1_2
  replace k1_3 := pw_cell_below hbn k1_3
  replace k1_4 := pw_cell_below hbn k1_4
  replace k1_5 := pw_cell_below hbn k1_5
  replace k1_6 := pw_cell_below hbn k1_6
  replace k1_7 := pw_cell_below hbn k1_7
  replace K2 := Lib.hid (blk_below K2.out hbn)
  replace hB := Lib.hid (below_then hB.out hB.out.size hbn)
  clear hbn
  cases s1 with
  | false =>
    go_wp2_with fail
    refine (bounds_truth.calls _ _ _ r0 r1 r2 r3 r4 r5 r6 r7 _ HT).mono ?_
    rintro e w3 ⟨rfl, hbn⟩
    replace k0_0 := pw_cell_below hbn k0_0
    replace k0_1 := pw_cell_below hbn k0_1
    replace k0_2 := pw_cell_below hbn k0_2
    replace k0_3 := pw_cell_below hbn k0_3
    replace k0_4 := pw_cell_below hbn k0_4
    replace k0_5 := pw_cell_below hbn k0_5
    replace k0_6 := pw_cell_below hbn k0_6
    replace k0_7 := pw_cell_below hbn k0_7
    replace k1_0 := pw_cell_below hbn k1_0
    replace k1_1 := pw_cell_below hbn k1_1
    replace k1_2 := pw_cell_below hbn k1_2
    replace k1_3 := pw_cell_below hbn k1_3
    replace k1_4 := pw_cell_below hbn k1_4
    replace k1_5 := pw_cell_below hbn k1_5
    replace k1_6 := pw_cell_below hbn k1_6
    replace k1_7 := pw_cell_below hbn k1_7
    replace K2 := Lib.hid (blk_below K2.out hbn)
    replace hB := Lib.hid (below_then hB.out hB.out.size hbn)
    clear hbn
    have Z := K2.out
    have z0 := blk_frozen Z 0
    have z1 := blk_frozen Z 1
    have z2 := blk_frozen Z 2
    have z3 := blk_frozen Z 3
    have z4 := blk_frozen Z 4
    have z5 := blk_frozen Z 5
    have z6 := blk_frozen Z 6
    have z7 := blk_frozen Z 7
    have y0 := blk_cell Z 0
    have y1 := blk_cell Z 1
    have y2 := blk_cell Z 2
    have y3 := blk_cell Z 3
    have y4 := blk_cell Z 4
    have y5 := blk_cell Z 5
    have y6 := blk_cell Z 6
    have y7 := blk_cell Z 7
    go_wp2
    refine bodyPost_ret (v := .agg #[.bool r0, .bool r1, .int .i64 r2, .int .i64 r3, .string r4, .int .i64 r5, .int .i64 r6, .string r7]) (by simp [results, Tryz.results185, go_sem, *]) rfl ⟨rfl, ?_⟩
    repeat (refine below_set ?_ (by first | exact Nat.le_refl _ | exact Nat.le_add_right _ _ | (show w.heap.size ≤ w.heap.size + 1 + 1; omega)))
    exact hB.out
  | true =>
    go_wp2_with fail
    refine (bounds_span_single.calls n1 h1 c0 c1 c2 d0 d1 d2 s2 _ (congrArg some e4)).mono ?_
    rintro e w3 ⟨rfl, hbn⟩
    replace k0_0 := pw_cell_below hbn k0_0
    replace k0_1 := pw_cell_below hbn k0_1
    replace k0_2 := pw_cell_below hbn k0_2
    replace k0_3 := pw_cell_below hbn k0_3
    replace k0_4 := pw_cell_below hbn k0_4
    replace k0_5 := pw_cell_below hbn k0_5
    replace k0_6 := pw_cell_below hbn k0_6
    replace k0_7 := pw_cell_below hbn k0_7
    replace k1_0 := pw_cell_below hbn k1_0
    replace k1_1 := pw_cell_below hbn k1_1
    replace k1_2 := pw_cell_below hbn k1_2
    replace k1_3 := pw_cell_below hbn k1_3
    replace k1_4 := pw_cell_below hbn k1_4
    replace k1_5 := pw_cell_below hbn k1_5
    replace k1_6 := pw_cell_below hbn k1_6
    replace k1_7 := pw_cell_below hbn k1_7
    replace K2 := Lib.hid (blk_below K2.out hbn)
    replace hB := Lib.hid (below_then hB.out hB.out.size hbn)
    clear hbn
    cases s2 with
    | false =>
      go_wp2_with fail
      refine (bounds_truth.calls _ _ _ r0 r1 r2 r3 r4 r5 r6 r7 _ HT).mono ?_
      rintro e w4 ⟨rfl, hbn⟩
      replace k0_0 := pw_cell_below hbn k0_0
      replace k0_1 := pw_cell_below hbn k0_1
      replace k0_2 := pw_cell_below hbn k0_2
      replace k0_3 := pw_cell_below hbn k0_3
      replace k0_4 := pw_cell_below hbn k0_4
      replace k0_5 := pw_cell_below hbn k0_5
      replace k0_6 := pw_cell_below hbn k0_6
      replace k0_7 := pw_cell_below hbn k0_7
      replace k1_0 := pw_cell_below hbn k1_0
      replace k1_1 := pw_cell_below hbn k1_1
      replace k1_2 := pw_cell_below hbn k1_2
      replace k1_3 := pw_cell_below hbn k1_3
      replace k1_4 := pw_cell_below hbn k1_4
      replace k1_5 := pw_cell_below hbn k1_5
      replace k1_6 := pw_cell_below hbn k1_6
      replace k1_7 := pw_cell_below hbn k1_7
      replace K2 := Lib.hid (blk_below K2.out hbn)
      replace hB := Lib.hid (below_then hB.out hB.out.size hbn)
      clear hbn
      have Z := K2.out
      have z0 := blk_frozen Z 0
      have z1 := blk_frozen Z 1
      have z2 := blk_frozen Z 2
      have z3 := blk_frozen Z 3
      have z4 := blk_frozen Z 4
      have z5 := blk_frozen Z 5
      have z6 := blk_frozen Z 6
      have z7 := blk_frozen Z 7
      have y0 := blk_cell Z 0
      have y1 := blk_cell Z 1
      have y2 := blk_cell Z 2
      have y3 := blk_cell Z 3
      have y4 := blk_cell Z 4
      have y5 := blk_cell Z 5
      have y6 := blk_cell Z 6
      have y7 := blk_cell Z 7
      go_wp2
      refine bodyPost_ret (v := .agg #[.bool r0, .bool r1, .int .i64 r2, .int .i64 r3, .string r4, .int .i64 r5, .int .i64 r6, .string r7]) (by simp [results, Tryz.results185, go_sem, *]) rfl ⟨rfl, ?_⟩
      repeat (refine below_set ?_ (by first | exact Nat.le_refl _ | exact Nat.le_add_right _ _ | (show w.heap.size ≤ w.heap.size + 1 + 1; omega)))
      exact hB.out
    | true =>
      cases eq with
      | false =>
        go_wp2_with fail
        refine (bounds_truth.calls _ _ _ r0 r1 r2 r3 r4 r5 r6 r7 _ HT).mono ?_
        rintro e w4 ⟨rfl, hbn⟩
        replace k0_0 := pw_cell_below hbn k0_0
        replace k0_1 := pw_cell_below hbn k0_1
        replace k0_2 := pw_cell_below hbn k0_2
        replace k0_3 := pw_cell_below hbn k0_3
        replace k0_4 := pw_cell_below hbn k0_4
        replace k0_5 := pw_cell_below hbn k0_5
        replace k0_6 := pw_cell_below hbn k0_6
        replace k0_7 := pw_cell_below hbn k0_7
        replace k1_0 := pw_cell_below hbn k1_0
        replace k1_1 := pw_cell_below hbn k1_1
        replace k1_2 := pw_cell_below hbn k1_2
        replace k1_3 := pw_cell_below hbn k1_3
        replace k1_4 := pw_cell_below hbn k1_4
        replace k1_5 := pw_cell_below hbn k1_5
        replace k1_6 := pw_cell_below hbn k1_6
        replace k1_7 := pw_cell_below hbn k1_7
        replace K2 := Lib.hid (blk_below K2.out hbn)
        replace hB := Lib.hid (below_then hB.out hB.out.size hbn)
        clear hbn
        have Z := K2.out
        have z0 := blk_frozen Z 0
        have z1 := blk_frozen Z 1
        have z2 := blk_frozen Z 2
        have z3 := blk_frozen Z 3
        have z4 := blk_frozen Z 4
        have z5 := blk_frozen Z 5
        have z6 := blk_frozen Z 6
        have z7 := blk_frozen Z 7
        have y0 := blk_cell Z 0
        have y1 := blk_cell Z 1
        have y2 := blk_cell Z 2
        have y3 := blk_cell Z 3
        have y4 := blk_cell Z 4
        have y5 := blk_cell Z 5
        have y6 := blk_cell Z 6
        have y7 := blk_cell Z 7
        go_wp2
        refine bodyPost_ret (v := .agg #[.bool r0, .bool r1, .int .i64 r2, .int .i64 r3, .string r4, .int .i64 r5, .int .i64 r6, .string r7]) (by simp [results, Tryz.results185, go_sem, *]) rfl ⟨rfl, ?_⟩
        repeat (refine below_set ?_ (by first | exact Nat.le_refl _ | exact Nat.le_add_right _ _ | (show w.heap.size ≤ w.heap.size + 1 + 1; omega)))
        exact hB.out
      | true =>
        go_wp2_with fail
        refine (bounds_truth.calls _ _ _ r0 r1 r2 r3 r4 r5 r6 r7 _ HT).mono ?_
        rintro e w4 ⟨rfl, hbn⟩
        replace k0_0 := pw_cell_below hbn k0_0
        replace k0_1 := pw_cell_below hbn k0_1
        replace k0_2 := pw_cell_below hbn k0_2
        replace k0_3 := pw_cell_below hbn k0_3
        replace k0_4 := pw_cell_below hbn k0_4
        replace k0_5 := pw_cell_below hbn k0_5
        replace k0_6 := pw_cell_below hbn k0_6
        replace k0_7 := pw_cell_below hbn k0_7
        replace k1_0 := pw_cell_below hbn k1_0
        replace k1_1 := pw_cell_below hbn k1_1
        replace k1_2 := pw_cell_below hbn k1_2
        replace k1_3 := pw_cell_below hbn k1_3
        replace k1_4 := pw_cell_below hbn k1_4
        replace k1_5 := pw_cell_below hbn k1_5
        replace k1_6 := pw_cell_below hbn k1_6
        replace k1_7 := pw_cell_below hbn k1_7
        replace K2 := Lib.hid (blk_below K2.out hbn)
        replace hB := Lib.hid (below_then hB.out hB.out.size hbn)
        clear hbn
        have Z := K2.out
        have z0 := blk_frozen Z 0
        have z1 := blk_frozen Z 1
        have z2 := blk_frozen Z 2
        have z3 := blk_frozen Z 3
        have z4 := blk_frozen Z 4
        have z5 := blk_frozen Z 5
        have z6 := blk_frozen Z 6
        have z7 := blk_frozen Z 7
        have y0 := blk_cell Z 0
        have y1 := blk_cell Z 1
        have y2 := blk_cell Z 2
        have y3 := blk_cell Z 3
        have y4 := blk_cell Z 4
        have y5 := blk_cell Z 5
        have y6 := blk_cell Z 6
        have y7 := blk_cell Z 7
        go_wp2
        refine bodyPost_ret (v := .agg #[.bool r0, .bool r1, .int .i64 r2, .int .i64 r3, .string r4, .int .i64 r5, .int .i64 r6, .string r7]) (by simp [results, Tryz.results185, go_sem, *]) rfl ⟨rfl, ?_⟩
        repeat (refine below_set ?_ (by first | exact Nat.le_refl _ | exact Nat.le_add_right _ _ | (show w.heap.size ≤ w.heap.size + 1 + 1; omega)))
        exact hB.out
set_option maxRecDepth 100000 in
set_option maxHeartbeats 8000000 in
theorem bounds_span_equal.most (K : Nat) (n0 h0 : Bool) (a0 a1 : Int) (a2 : ByteArray) (b0 b1 : Int) (b2 : ByteArray) (n1 h1 : Bool) (c0 c1 : Int) (c2 : ByteArray) (d0 d1 : Int) (d2 : ByteArray) (p q : Int) (s1 s2 eq : Bool)
    (e1 : decide (p < 0) = false) (H1 : value_Cmp.f K b0 b1 b2 c0 c1 c2 = some p) (e2 : decide (q < 0) = true) (H2 : value_Cmp.f K d0 d1 d2 a0 a1 a2 = some q)
    (e3 : (a0 == b0 && (a1 == b1 && (a2.toList == b2.toList))) = s1) (e4 : (c0 == d0 && (c1 == d1 && (c2.toList == d2.toList))) = s2) (e5 : (a0 == c0 && (a1 == c1 && (a2.toList == c2.toList))) = eq)
    (r0 r1 : Bool) (r2 r3 : Int) (r4 : ByteArray) (r5 r6 : Int) (r7 : ByteArray) (HT : bounds_truth.f (!(s1 && s2 && eq)) (false) false = some (r0, r1, r2, r3, r4, r5, r6, r7)) (w : World) :
    Calls Tryz.prog 185 #[.agg #[.bool n0, .bool h0, .int .i64 a0, .int .i64 a1, .string a2, .int .i64 b0, .int .i64 b1, .string b2], .agg #[.bool n1, .bool h1, .int .i64 c0, .int .i64 c1, .string c2, .int .i64 d0, .int .i64 d1, .string d2]] w fun e w' => e = .returned (.agg #[.bool r0, .bool r1, .int .i64 r2, .int .i64 r3, .string r4, .int .i64 r5, .int .i64 r6, .string r7]) ∧ Below w.heap.size w w' := by
  have hu161 := Tryz.underlying161
  have hu35 := Tryz.underlying35
  go_enter Tryz.func185, Tryz.ntmps185
  go_wp2_with fail
  have K0 := blk_alloc (blk_alloc (heap_alloc_new w (.cells #[.bool n0, .bool h0, .int .i64 a0, .int .i64 a1, .string a2, .int .i64 b0, .int .i64 b1, .string b2] 161)) (.cells #[.bool n1, .bool h1, .int .i64 c0, .int .i64 c1, .string c2, .int .i64 d0, .int .i64 d1, .string d2] 161)) (.cells #[.bool false, .bool false, .int .i64 0, .int .i64 0, .string ⟨#[]⟩, .int .i64 0, .int .i64 0, .string ⟨#[]⟩] 161)
  have K1 := blk_alloc (heap_alloc_new (w.alloc (.cells #[.bool n0, .bool h0, .int .i64 a0, .int .i64 a1, .string a2, .int .i64 b0, .int .i64 b1, .string b2] 161)) (.cells #[.bool n1, .bool h1, .int .i64 c0, .int .i64 c1, .string c2, .int .i64 d0, .int .i64 d1, .string d2] 161)) (.cells #[.bool false, .bool false, .int .i64 0, .int .i64 0, .string ⟨#[]⟩, .int .i64 0, .int .i64 0, .string ⟨#[]⟩] 161)
  have K2 := heap_alloc_new ((w.alloc (.cells #[.bool n0, .bool h0, .int .i64 a0, .int .i64 a1, .string a2, .int .i64 b0, .int .i64 b1, .string b2] 161)).alloc (.cells #[.bool n1, .bool h1, .int .i64 c0, .int .i64 c1, .string c2, .int .i64 d0, .int .i64 d1, .string d2] 161)) (.cells #[.bool false, .bool false, .int .i64 0, .int .i64 0, .string ⟨#[]⟩, .int .i64 0, .int .i64 0, .string ⟨#[]⟩] 161)
  have hB := Lib.hid ((((Below.refl _ w).alloc (Nat.le_refl _) (.cells #[.bool n0, .bool h0, .int .i64 a0, .int .i64 a1, .string a2, .int .i64 b0, .int .i64 b1, .string b2] 161)).alloc (by simp only [World.size_alloc]; omega) (.cells #[.bool n1, .bool h1, .int .i64 c0, .int .i64 c1, .string c2, .int .i64 d0, .int .i64 d1, .string d2] 161)).alloc (by simp only [World.size_alloc]; omega) (.cells #[.bool false, .bool false, .int .i64 0, .int .i64 0, .string ⟨#[]⟩, .int .i64 0, .int .i64 0, .string ⟨#[]⟩] 161))
  simp only [World.size_alloc] at K1 K2
  generalize ((w.alloc (.cells #[.bool n0, .bool h0, .int .i64 a0, .int .i64 a1, .string a2, .int .i64 b0, .int .i64 b1, .string b2] 161)).alloc (.cells #[.bool n1, .bool h1, .int .i64 c0, .int .i64 c1, .string c2, .int .i64 d0, .int .i64 d1, .string d2] 161)).alloc (.cells #[.bool false, .bool false, .int .i64 0, .int .i64 0, .string ⟨#[]⟩, .int .i64 0, .int .i64 0, .string ⟨#[]⟩] 161) = W at *
  have k0_0 : W.cell? ⟨w.heap.size, 0, none⟩ = some (.bool n0) := (blk_cell K0 0).trans rfl
  have k0_1 : W.cell? ⟨w.heap.size, 1, none⟩ = some (.bool h0) := (blk_cell K0 1).trans rfl
  have k0_2 : W.cell? ⟨w.heap.size, 2, none⟩ = some (.int .i64 a0) := (blk_cell K0 2).trans rfl
  have k0_3 : W.cell? ⟨w.heap.size, 3, none⟩ = some (.int .i64 a1) := (blk_cell K0 3).trans rfl
  have k0_4 : W.cell? ⟨w.heap.size, 4, none⟩ = some (.string a2) := (blk_cell K0 4).trans rfl
  have k0_5 : W.cell? ⟨w.heap.size, 5, none⟩ = some (.int .i64 b0) := (blk_cell K0 5).trans rfl
  have k0_6 : W.cell? ⟨w.heap.size, 6, none⟩ = some (.int .i64 b1) := (blk_cell K0 6).trans rfl
  have k0_7 : W.cell? ⟨w.heap.size, 7, none⟩ = some (.string b2) := (blk_cell K0 7).trans rfl
  have k1_0 : W.cell? ⟨w.heap.size + 1, 0, none⟩ = some (.bool n1) := (blk_cell K1 0).trans rfl
  have k1_1 : W.cell? ⟨w.heap.size + 1, 1, none⟩ = some (.bool h1) := (blk_cell K1 1).trans rfl
  have k1_2 : W.cell? ⟨w.heap.size + 1, 2, none⟩ = some (.int .i64 c0) := (blk_cell K1 2).trans rfl
  have k1_3 : W.cell? ⟨w.heap.size + 1, 3, none⟩ = some (.int .i64 c1) := (blk_cell K1 3).trans rfl
  have k1_4 : W.cell? ⟨w.heap.size + 1, 4, none⟩ = some (.string c2) := (blk_cell K1 4).trans rfl
  have k1_5 : W.cell? ⟨w.heap.size + 1, 5, none⟩ = some (.int .i64 d0) := (blk_cell K1 5).trans rfl
  have k1_6 : W.cell? ⟨w.heap.size + 1, 6, none⟩ = some (.int .i64 d1) := (blk_cell K1 6).trans rfl
  have k1_7 : W.cell? ⟨w.heap.size + 1, 7, none⟩ = some (.string d2) := (blk_cell K1 7).trans rfl
  replace K2 := Lib.hid K2
  clear K0 K1
  go_wp2_with fail
  refine (value_Cmp.calls K b0 b1 b2 c0 c1 c2 p _ H1).mono ?_
  rintro e w1 ⟨rfl, hbn⟩
  replace k0_0 := pw_cell_below hbn k0_0
  replace k0_1 := pw_cell_below hbn k0_1
  replace k0_2 := pw_cell_below hbn k0_2
  replace k0_3 := pw_cell_below hbn k0_3
  replace k0_4 := pw_cell_below hbn k0_4
  replace k0_5 := pw_cell_below hbn k0_5
  replace k0_6 := pw_cell_below hbn k0_6
  replace k0_7 := pw_cell_below hbn k0_7
  replace k1_0 := pw_cell_below hbn k1_0
  replace k1_1 := pw_cell_below hbn k1_1
  replace k1_2 := pw_cell_below hbn k1_2
  replace k1_3 := pw_cell_below hbn k1_3
  replace k1_4 := pw_cell_below hbn k1_4
  replace k1_5 := pw_cell_below hbn k1_5
  replace k1_6 := pw_cell_below hbn k1_6
  replace k1_7 := pw_cell_below hbn k1_7
  replace K2 := Lib.hid (blk_below K2.out hbn)
  replace hB := Lib.hid (below_then hB.out hB.out.size hbn)
  clear hbn
  go_wp2_with fail
  refine (value_Cmp.calls K d0 d1 d2 a0 a1 a2 q _ H2).mono ?_
  rintro e w2 ⟨rfl, hbn⟩
  replace k0_0 := pw_cell_below hbn k0_0
  replace k0_1 := pw_cell_below hbn k0_1
  replace k0_2 := pw_cell_below hbn k0_2
  replace k0_3 := pw_cell_below hbn k0_3
  replace k0_4 := pw_cell_below hbn k0_4
  replace k0_5 := pw_cell_below hbn k0_5
  replace k0_6 := pw_cell_below hbn k0_6
  replace k0_7 := pw_cell_below hbn k0_7
  replace k1_0 := pw_cell_below hbn k1_0
  replace k1_1 := pw_cell_below hbn k1_1
  replace k1_2 := pw_cell_below hbn k1_2
  replace k1_3 := pw_cell_below hbn k1_3
  replace k1_4 := pw_cell_below hbn k1_4
  replace k1_5 := pw_cell_below hbn k1_5
  replace k1_6 := pw_cell_below hbn k1_6
  replace k1_7 := pw_cell_below hbn k1_7
  replace K2 := Lib.hid (blk_below K2.out hbn)
  replace hB := Lib.hid (below_then hB.out hB.out.size hbn)
  clear hbn
  go_wp2_with fail
  refine (bounds_span_single.calls n0 h0 a0 a1 a2 b0 b1 b2 s1 _ (congrArg some e3)).mono ?_
  rintro e w3 ⟨rfl, hbn⟩
  replace k0_0 := pw_cell_below hbn k0_0
  replace k0_1 := pw_cell_below hbn k0_1
  replace k0_2 := pw_cell_below hbn k0_2
  replace k0_3 := pw_cell_below hbn k0_3
  replace k0_4 := pw_cell_below hbn k0_4
  replace k0_5 := pw_cell_below hbn k0_5
  replace k0_6 := pw_cell_below hbn k0_6
  replace k0_7 := pw_cell_below hbn k0_7
  replace k1_0 := pw_cell_below hbn k1_0
  replace k1_1 := pw_cell_below hbn k1_1
  replace k1_2 := pw_cell_below hbn k1_2
  replace k1_3 := pw_cell_below hbn k1_3
  replace k1_4 := pw_cell_below hbn k1_4
  replace k1_5 := pw_cell_below hbn k1_5
  replace k1_6 := pw_cell_below hbn k1_6
  replace k1_7 := pw_cell_below hbn k1_7
  replace K2 := Lib.hid (blk_below K2.out hbn)
  replace hB := Lib.hid (below_then hB.out hB.out.size hbn)
  clear hbn
  cases s1 with
  | false =>
    go_wp2_with fail
    refine (bounds_truth.calls _ _ _ r0 r1 r2 r3 r4 r5 r6 r7 _ HT).mono ?_
    rintro e w4 ⟨rfl, hbn⟩
    replace k0_0 := pw_cell_below hbn k0_0
    replace k0_1 := pw_cell_below hbn k0_1
    replace k0_2 := pw_cell_below hbn k0_2
    replace k0_3 := pw_cell_below hbn k0_3
    replace k0_4 := pw_cell_below hbn k0_4
    replace k0_5 := pw_cell_below hbn k0_5
    replace k0_6 := pw_cell_below hbn k0_6
    replace k0_7 := pw_cell_below hbn k0_7
    replace k1_0 := pw_cell_below hbn k1_0
    replace k1_1 := pw_cell_below hbn k1_1
    replace k1_2 := pw_cell_below hbn k1_2
    replace k1_3 := pw_cell_below hbn k1_3
    replace k1_4 := pw_cell_below hbn k1_4
    replace k1_5 := pw_cell_below hbn k1_5
    replace k1_6 := pw_cell_below hbn k1_6
    replace k1_7 := pw_cell_below hbn k1_7
    replace K2 := Lib.hid (blk_below K2.out hbn)
    replace hB := Lib.hid (below_then hB.out hB.out.size hbn)
    clear hbn
    have Z := K2.out
    have z0 := blk_frozen Z 0
    have z1 := blk_frozen Z 1
    have z2 := blk_frozen Z 2
    have z3 := blk_frozen Z 3
    have z4 := blk_frozen Z 4
    have z5 := blk_frozen Z 5
    have z6 := blk_frozen Z 6
    have z7 := blk_frozen Z 7
    have y0 := blk_cell Z 0
    have y1 := blk_cell Z 1
    have y2 := blk_cell Z 2
    have y3 := blk_cell Z 3
    have y4 := blk_cell Z 4
    have y5 := blk_cell Z 5
    have y6 := blk_cell Z 6
    have y7 := blk_cell Z 7
    go_wp2
    refine bodyPost_ret (v := .agg #[.bool r0, .bool r1, .int .i64 r2, .int .i64 r3, .string r4, .int .i64 r5, .int .i64 r6, .string r7]) (by simp [results, Tryz.results185, go_sem, *]) rfl ⟨rfl, ?_⟩
    repeat (refine below_set ?_ (by first | exact Nat.le_refl _ | exact Nat.le_add_right _ _ | (show w.heap.size ≤ w.heap.size + 1 + 1; omega)))
    exact hB.out
  | true =>
    go_wp2_with fail
    refine (bounds_span_single.calls n1 h1 c0 c1 c2 d0 d1 d2 s2 _ (congrArg some e4)).mono ?_
    rintro e w4 ⟨rfl, hbn⟩
    replace k0_0 := pw_cell_below hbn k0_0
    replace k0_1 := pw_cell_below hbn k0_1
    replace k0_2 := pw_cell_below hbn k0_2
    replace k0_3 := pw_cell_below hbn k0_3
    replace k0_4 := pw_cell_below hbn k0_4
    replace k0_5 := pw_cell_below hbn k0_5
    replace k0_6 := pw_cell_below hbn k0_6
    replace k0_7 := pw_cell_below hbn k0_7
    replace k1_0 := pw_cell_below hbn k1_0
    replace k1_1 := pw_cell_below hbn k1_1
    replace k1_2 := pw_cell_below hbn k1_2
    replace k1_3 := pw_cell_below hbn k1_3
    replace k1_4 := pw_cell_below hbn k1_4
    replace k1_5 := pw_cell_below hbn k1_5
    replace k1_6 := pw_cell_below hbn k1_6
    replace k1_7 := pw_cell_below hbn k1_7
    replace K2 := Lib.hid (blk_below K2.out hbn)
    replace hB := Lib.hid (below_then hB.out hB.out.size hbn)
    clear hbn
    cases s2 with
    | false =>
      go_wp2_with fail
      refine (bounds_truth.calls _ _ _ r0 r1 r2 r3 r4 r5 r6 r7 _ HT).mono ?_
      rintro e w5 ⟨rfl, hbn⟩
      replace k0_0 := pw_cell_below hbn k0_0
      replace k0_1 := pw_cell_below hbn k0_1
      replace k0_2 := pw_cell_below hbn k0_2
      replace k0_3 := pw_cell_below hbn k0_3
      replace k0_4 := pw_cell_below hbn k0_4
      replace k0_5 := pw_cell_below hbn k0_5
      replace k0_6 := pw_cell_below hbn k0_6
      replace k0_7 := pw_cell_below hbn k0_7
      replace k1_0 := pw_cell_below hbn k1_0
      replace k1_1 := pw_cell_below hbn k1_1
      replace k1_2 := pw_cell_below hbn k1_2
      replace k1_3 := pw_cell_below hbn k1_3
      replace k1_4 := pw_cell_below hbn k1_4
      replace k1_5 := pw_cell_below hbn k1_5
      replace k1_6 := pw_cell_below hbn k1_6
      replace k1_7 := pw_cell_below hbn k1_7
      replace K2 := Lib.hid (blk_below K2.out hbn)
      replace hB := Lib.hid (below_then hB.out hB.out.size hbn)
      clear hbn
      have Z := K2.out
      have z0 := blk_frozen Z 0
      have z1 := blk_frozen Z 1
      have z2 := blk_frozen Z 2
      have z3 := blk_frozen Z 3
      have z4 := blk_frozen Z 4
      have z5 := blk_frozen Z 5
      have z6 := blk_frozen Z 6
      have z7 := blk_frozen Z 7
      have y0 := blk_cell Z 0
      have y1 := blk_cell Z 1
      have y2 := blk_cell Z 2
      have y3 := blk_cell Z 3
      have y4 := blk_cell Z 4
      have y5 := blk_cell Z 5
      have y6 := blk_cell Z 6
      have y7 := blk_cell Z 7
      go_wp2
      refine bodyPost_ret (v := .agg #[.bool r0, .bool r1, .int .i64 r2, .int .i64 r3, .string r4, .int .i64 r5, .int .i64 r6, .string r7]) (by simp [results, Tryz.results185, go_sem, *]) rfl ⟨rfl, ?_⟩
      repeat (refine below_set ?_ (by first | exact Nat.le_refl _ | exact Nat.le_add_right _ _ | (show w.heap.size ≤ w.heap.size + 1 + 1; omega)))
      exact hB.out
    | true =>
      cases eq with
      | false =>
        go_wp2_with fail
        refine (bounds_truth.calls _ _ _ r0 r1 r2 r3 r4 r5 r6 r7 _ HT).mono ?_
        rintro e w5 ⟨rfl, hbn⟩
        replace k0_0 := pw_cell_below hbn k0_0
        replace k0_1 := pw_cell_below hbn k0_1
        replace k0_2 := pw_cell_below hbn k0_2
        replace k0_3 := pw_cell_below hbn k0_3
        replace k0_4 := pw_cell_below hbn k0_4
        replace k0_5 := pw_cell_below hbn k0_5
        replace k0_6 := pw_cell_below hbn k0_6
        replace k0_7 := pw_cell_below hbn k0_7
        replace k1_0 := pw_cell_below hbn k1_0
        replace k1_1 := pw_cell_below hbn k1_1
        replace k1_2 := pw_cell_below hbn k1_2
        replace k1_3 := pw_cell_below hbn k1_3
        replace k1_4 := pw_cell_below hbn k1_4
        replace k1_5 := pw_cell_below hbn k1_5
        replace k1_6 := pw_cell_below hbn k1_6
        replace k1_7 := pw_cell_below hbn k1_7
        replace K2 := Lib.hid (blk_below K2.out hbn)
        replace hB := Lib.hid (below_then hB.out hB.out.size hbn)
        clear hbn
        have Z := K2.out
        have z0 := blk_frozen Z 0
        have z1 := blk_frozen Z 1
        have z2 := blk_frozen Z 2
        have z3 := blk_frozen Z 3
        have z4 := blk_frozen Z 4
        have z5 := blk_frozen Z 5
        have z6 := blk_frozen Z 6
        have z7 := blk_frozen Z 7
        have y0 := blk_cell Z 0
        have y1 := blk_cell Z 1
        have y2 := blk_cell Z 2
        have y3 := blk_cell Z 3
        have y4 := blk_cell Z 4
        have y5 := blk_cell Z 5
        have y6 := blk_cell Z 6
        have y7 := blk_cell Z 7
        go_wp2
        refine bodyPost_ret (v := .agg #[.bool r0, .bool r1, .int .i64 r2, .int .i64 r3, .string r4, .int .i64 r5, .int .i64 r6, .string r7]) (by simp [results, Tryz.results185, go_sem, *]) rfl ⟨rfl, ?_⟩
        repeat (refine below_set ?_ (by first | exact Nat.le_refl _ | exact Nat.le_add_right _ _ | (show w.heap.size ≤ w.heap.size + 1 + 1; omega)))
        exact hB.out
      | true =>
        go_wp2_with fail
        refine (bounds_truth.calls _ _ _ r0 r1 r2 r3 r4 r5 r6 r7 _ HT).mono ?_
        rintro e w5 ⟨rfl, hbn⟩
        replace k0_0 := pw_cell_below hbn k0_0
        replace k0_1 := pw_cell_below hbn k0_1
        replace k0_2 := pw_cell_below hbn k0_2
        replace k0_3 := pw_cell_below hbn k0_3
        replace k0_4 := pw_cell_below hbn k0_4
        replace k0_5 := pw_cell_below hbn k0_5
        replace k0_6 := pw_cell_below hbn k0_6
        replace k0_7 := pw_cell_below hbn k0_7
        replace k1_0 := pw_cell_below hbn k1_0
        replace k1_1 := pw_cell_below hbn k1_1
        replace k1_2 := pw_cell_below hbn k1_2
        replace k1_3 := pw_cell_below hbn k1_3
        replace k1_4 := pw_cell_below hbn k1_4
        replace k1_5 := pw_cell_below hbn k1_5
        replace k1_6 := pw_cell_below hbn k1_6
        replace k1_7 := pw_cell_below hbn k1_7
        replace K2 := Lib.hid (blk_below K2.out hbn)
        replace hB := Lib.hid (below_then hB.out hB.out.size hbn)
        clear hbn
        have Z := K2.out
        have z0 := blk_frozen Z 0
        have z1 := blk_frozen Z 1
        have z2 := blk_frozen Z 2
        have z3 := blk_frozen Z 3
        have z4 := blk_frozen Z 4
        have z5 := blk_frozen Z 5
        have z6 := blk_frozen Z 6
        have z7 := blk_frozen Z 7
        have y0 := blk_cell Z 0
        have y1 := blk_cell Z 1
        have y2 := blk_cell Z 2
        have y3 := blk_cell Z 3
        have y4 := blk_cell Z 4
        have y5 := blk_cell Z 5
        have y6 := blk_cell Z 6
        have y7 := blk_cell Z 7
        go_wp2
        refine bodyPost_ret (v := .agg #[.bool r0, .bool r1, .int .i64 r2, .int .i64 r3, .string r4, .int .i64 r5, .int .i64 r6, .string r7]) (by simp [results, Tryz.results185, go_sem, *]) rfl ⟨rfl, ?_⟩
        repeat (refine below_set ?_ (by first | exact Nat.le_refl _ | exact Nat.le_add_right _ _ | (show w.heap.size ≤ w.heap.size + 1 + 1; omega)))
        exact hB.out
set_option maxRecDepth 100000 in
set_option maxHeartbeats 8000000 in
theorem bounds_span_equal.meet (K : Nat) (n0 h0 : Bool) (a0 a1 : Int) (a2 : ByteArray) (b0 b1 : Int) (b2 : ByteArray) (n1 h1 : Bool) (c0 c1 : Int) (c2 : ByteArray) (d0 d1 : Int) (d2 : ByteArray) (p q : Int) (s1 s2 eq : Bool)
    (e1 : decide (p < 0) = false) (H1 : value_Cmp.f K b0 b1 b2 c0 c1 c2 = some p) (e2 : decide (q < 0) = false) (H2 : value_Cmp.f K d0 d1 d2 a0 a1 a2 = some q)
    (e3 : (a0 == b0 && (a1 == b1 && (a2.toList == b2.toList))) = s1) (e4 : (c0 == d0 && (c1 == d1 && (c2.toList == d2.toList))) = s2) (e5 : (a0 == c0 && (a1 == c1 && (a2.toList == c2.toList))) = eq)
    (r0 r1 : Bool) (r2 r3 : Int) (r4 : ByteArray) (r5 r6 : Int) (r7 : ByteArray) (HT : bounds_truth.f (!(s1 && s2 && eq)) (true) false = some (r0, r1, r2, r3, r4, r5, r6, r7)) (w : World) :
    Calls Tryz.prog 185 #[.agg #[.bool n0, .bool h0, .int .i64 a0, .int .i64 a1, .string a2, .int .i64 b0, .int .i64 b1, .string b2], .agg #[.bool n1, .bool h1, .int .i64 c0, .int .i64 c1, .string c2, .int .i64 d0, .int .i64 d1, .string d2]] w fun e w' => e = .returned (.agg #[.bool r0, .bool r1, .int .i64 r2, .int .i64 r3, .string r4, .int .i64 r5, .int .i64 r6, .string r7]) ∧ Below w.heap.size w w' := by
  have hu161 := Tryz.underlying161
  have hu35 := Tryz.underlying35
  go_enter Tryz.func185, Tryz.ntmps185
  go_wp2_with fail
  have K0 := blk_alloc (blk_alloc (heap_alloc_new w (.cells #[.bool n0, .bool h0, .int .i64 a0, .int .i64 a1, .string a2, .int .i64 b0, .int .i64 b1, .string b2] 161)) (.cells #[.bool n1, .bool h1, .int .i64 c0, .int .i64 c1, .string c2, .int .i64 d0, .int .i64 d1, .string d2] 161)) (.cells #[.bool false, .bool false, .int .i64 0, .int .i64 0, .string ⟨#[]⟩, .int .i64 0, .int .i64 0, .string ⟨#[]⟩] 161)
  have K1 := blk_alloc (heap_alloc_new (w.alloc (.cells #[.bool n0, .bool h0, .int .i64 a0, .int .i64 a1, .string a2, .int .i64 b0, .int .i64 b1, .string b2] 161)) (.cells #[.bool n1, .bool h1, .int .i64 c0, .int .i64 c1, .string c2, .int .i64 d0, .int .i64 d1, .string d2] 161)) (.cells #[.bool false, .bool false, .int .i64 0, .int .i64 0, .string ⟨#[]⟩, .int .i64 0, .int .i64 0, .string ⟨#[]⟩] 161)
  have K2 := heap_alloc_new ((w.alloc (.cells #[.bool n0, .bool h0, .int .i64 a0, .int .i64 a1, .string a2, .int .i64 b0, .int .i64 b1, .string b2] 161)).alloc (.cells #[.bool n1, .bool h1, .int .i64 c0, .int .i64 c1, .string c2, .int .i64 d0, .int .i64 d1, .string d2] 161)) (.cells #[.bool false, .bool false, .int .i64 0, .int .i64 0, .string ⟨#[]⟩, .int .i64 0, .int .i64 0, .string ⟨#[]⟩] 161)
  have hB := Lib.hid ((((Below.refl _ w).alloc (Nat.le_refl _) (.cells #[.bool n0, .bool h0, .int .i64 a0, .int .i64 a1, .string a2, .int .i64 b0, .int .i64 b1, .string b2] 161)).alloc (by simp only [World.size_alloc]; omega) (.cells #[.bool n1, .bool h1, .int .i64 c0, .int .i64 c1, .string c2, .int .i64 d0, .int .i64 d1, .string d2] 161)).alloc (by simp only [World.size_alloc]; omega) (.cells #[.bool false, .bool false, .int .i64 0, .int .i64 0, .string ⟨#[]⟩, .int .i64 0, .int .i64 0, .string ⟨#[]⟩] 161))
  simp only [World.size_alloc] at K1 K2
  generalize ((w.alloc (.cells #[.bool n0, .bool h0, .int .i64 a0, .int .i64 a1, .string a2, .int .i64 b0, .int .i64 b1, .string b2] 161)).alloc (.cells #[.bool n1, .bool h1, .int .i64 c0, .int .i64 c1, .string c2, .int .i64 d0, .int .i64 d1, .string d2] 161)).alloc (.cells #[.bool false, .bool false, .int .i64 0, .int .i64 0, .string ⟨#[]⟩, .int .i64 0, .int .i64 0, .string ⟨#[]⟩] 161) = W at *
  have k0_0 : W.cell? ⟨w.heap.size, 0, none⟩ = some (.bool n0) := (blk_cell K0 0).trans rfl
  have k0_1 : W.cell? ⟨w.heap.size, 1, none⟩ = some (.bool h0) := (blk_cell K0 1).trans rfl
  have k0_2 : W.cell? ⟨w.heap.size, 2, none⟩ = some (.int .i64 a0) := (blk_cell K0 2).trans rfl
  have k0_3 : W.cell? ⟨w.heap.size, 3, none⟩ = some (.int .i64 a1) := (blk_cell K0 3).trans rfl
  have k0_4 : W.cell? ⟨w.heap.size, 4, none⟩ = some (.string a2) := (blk_cell K0 4).trans rfl
  have k0_5 : W.cell? ⟨w.heap.size, 5, none⟩ = some (.int .i64 b0) := (blk_cell K0 5).trans rfl
  have k0_6 : W.cell? ⟨w.heap.size, 6, none⟩ = some (.int .i64 b1) := (blk_cell K0 6).trans rfl
  have k0_7 : W.cell? ⟨w.heap.size, 7, none⟩ = some (.string b2) := (blk_cell K0 7).trans rfl
  have k1_0 : W.cell? ⟨w.heap.size + 1, 0, none⟩ = some (.bool n1) := (blk_cell K1 0).trans rfl
  have k1_1 : W.cell? ⟨w.heap.size + 1, 1, none⟩ = some (.bool h1) := (blk_cell K1 1).trans rfl
  have k1_2 : W.cell? ⟨w.heap.size + 1, 2, none⟩ = some (.int .i64 c0) := (blk_cell K1 2).trans rfl
  have k1_3 : W.cell? ⟨w.heap.size + 1, 3, none⟩ = some (.int .i64 c1) := (blk_cell K1 3).trans rfl
  have k1_4 : W.cell? ⟨w.heap.size + 1, 4, none⟩ = some (.string c2) := (blk_cell K1 4).trans rfl
  have k1_5 : W.cell? ⟨w.heap.size + 1, 5, none⟩ = some (.int .i64 d0) := (blk_cell K1 5).trans rfl
  have k1_6 : W.cell? ⟨w.heap.size + 1, 6, none⟩ = some (.int .i64 d1) := (blk_cell K1 6).trans rfl
  have k1_7 : W.cell? ⟨w.heap.size + 1, 7, none⟩ = some (.string d2) := (blk_cell K1 7).trans rfl
  replace K2 := Lib.hid K2
  clear K0 K1
  go_wp2_with fail
  refine (value_Cmp.calls K b0 b1 b2 c0 c1 c2 p _ H1).mono ?_
  rintro e w1 ⟨rfl, hbn⟩
  replace k0_0 := pw_cell_below hbn k0_0
  replace k0_1 := pw_cell_below hbn k0_1
  replace k0_2 := pw_cell_below hbn k0_2
  replace k0_3 := pw_cell_below hbn k0_3
  replace k0_4 := pw_cell_below hbn k0_4
  replace k0_5 := pw_cell_below hbn k0_5
  replace k0_6 := pw_cell_below hbn k0_6
  replace k0_7 := pw_cell_below hbn k0_7
  replace k1_0 := pw_cell_below hbn k1_0
  replace k1_1 := pw_cell_below hbn k1_1
  replace k1_2 := pw_cell_below hbn k1_2
  replace k1_3 := pw_cell_below hbn k1_3
  replace k1_4 := pw_cell_below hbn k1_4
  replace k1_5 := pw_cell_below hbn k1_5
  replace k1_6 := pw_cell_below hbn k1_6
  replace k1_7 := pw_cell_below hbn k1_7
  replace K2 := Lib.hid (blk_below K2.out hbn)
  replace hB := Lib.hid (below_then hB.out hB.out.size hbn)
  clear hbn
  go_wp2_with fail
  refine (value_Cmp.calls K d0 d1 d2 a0 a1 a2 q _ H2).mono ?_
  rintro e w2 ⟨rfl, hbn⟩
  replace k0_0 := pw_cell_below hbn k0_0
  replace k0_1 := pw_cell_below hbn k0_1
  replace k0_2 := pw_cell_below hbn k0_2
  replace k0_3 := pw_cell_below hbn k0_3
  replace k0_4 := pw_cell_below hbn k0_4
  replace k0_5 := pw_cell_below hbn k0_5
  replace k0_6 := pw_cell_below hbn k0_6
  replace k0_7 := pw_cell_below hbn k0_7
  replace k1_0 := pw_cell_below hbn k1_0
  replace k1_1 := pw_cell_below hbn k1_1
  replace k1_2 := pw_cell_below hbn k1_2
  replace k1_3 := pw_cell_below hbn k1_3
  replace k1_4 := pw_cell_below hbn k1_4
  replace k1_5 := pw_cell_below hbn k1_5
  replace k1_6 := pw_cell_below hbn k1_6
  replace k1_7 := pw_cell_below hbn k1_7
  replace K2 := Lib.hid (blk_below K2.out hbn)
  replace hB := Lib.hid (below_then hB.out hB.out.size hbn)
  clear hbn
  go_wp2_with fail
  refine (bounds_span_single.calls n0 h0 a0 a1 a2 b0 b1 b2 s1 _ (congrArg some e3)).mono ?_
  rintro e w3 ⟨rfl, hbn⟩
  replace k0_0 := pw_cell_below hbn k0_0
  replace k0_1 := pw_cell_below hbn k0_1
  replace k0_2 := pw_cell_below hbn k0_2
  replace k0_3 := pw_cell_below hbn k0_3
  replace k0_4 := pw_cell_below hbn k0_4
  replace k0_5 := pw_cell_below hbn k0_5
  replace k0_6 := pw_cell_below hbn k0_6
  replace k0_7 := pw_cell_below hbn k0_7
  replace k1_0 := pw_cell_below hbn k1_0
  replace k1_1 := pw_cell_below hbn k1_1
  replace k1_2 := pw_cell_below hbn k1_2
  replace k1_3 := pw_cell_below hbn k1_3
  replace k1_4 := pw_cell_below hbn k1_4
  replace k1_5 := pw_cell_below hbn k1_5
  replace k1_6 := pw_cell_below hbn k1_6
  replace k1_7 := pw_cell_below hbn k1_7
  replace K2 := Lib.hid (blk_below K2.out hbn)
  replace hB := Lib.hid (below_then hB.out hB.out.size hbn)
  clear hbn
  cases s1 with
  | false =>
    go_wp2_with fail
    refine (bounds_truth.calls _ _ _ r0 r1 r2 r3 r4 r5 r6 r7 _ HT).mono ?_
    rintro e w4 ⟨rfl, hbn⟩
    replace k0_0 := pw_cell_below hbn k0_0
    replace k0_1 := pw_cell_below hbn k0_1
    replace k0_2 := pw_cell_below hbn k0_2
    replace k0_3 := pw_cell_below hbn k0_3
    replace k0_4 := pw_cell_below hbn k0_4
    replace k0_5 := pw_cell_below hbn k0_5
    replace k0_6 := pw_cell_below hbn k0_6
    replace k0_7 := pw_cell_below hbn k0_7
    replace k1_0 := pw_cell_below hbn k1_0
    replace k1_1 := pw_cell_below hbn k1_1
    replace k1_2 := pw_cell_below hbn k1_2
    replace k1_3 := pw_cell_below hbn k1_3
    replace k1_4 := pw_cell_below hbn k1_4
    replace k1_5 := pw_cell_below hbn k1_5
    replace k1_6 := pw_cell_below hbn k1_6
    replace k1_7 := pw_cell_below hbn k1_7
    replace K2 := Lib.hid (blk_below K2.out hbn)
    replace hB := Lib.hid (below_then hB.out hB.out.size hbn)
    clear hbn
    have Z := K2.out
    have z0 := blk_frozen Z 0
    have z1 := blk_frozen Z 1
    have z2 := blk_frozen Z 2
    have z3 := blk_frozen Z 3
    have z4 := blk_frozen Z 4
    have z5 := blk_frozen Z 5
    have z6 := blk_frozen Z 6
    have z7 := blk_frozen Z 7
    have y0 := blk_cell Z 0
    have y1 := blk_cell Z 1
    have y2 := blk_cell Z 2
    have y3 := blk_cell Z 3
    have y4 := blk_cell Z 4
    have y5 := blk_cell Z 5
    have y6 := blk_cell Z 6
    have y7 := blk_cell Z 7
    go_wp2
    refine bodyPost_ret (v := .agg #[.bool r0, .bool r1, .int .i64 r2, .int .i64 r3, .string r4, .int .i64 r5, .int .i64 r6, .string r7]) (by simp [results, Tryz.results185, go_sem, *]) rfl ⟨rfl, ?_⟩
    repeat (refine below_set ?_ (by first | exact Nat.le_refl _ | exact Nat.le_add_right _ _ | (show w.heap.size ≤ w.heap.size + 1 + 1; omega)))
    exact hB.out
  | true =>
    go_wp2_with fail
    refine (bounds_span_single.calls n1 h1 c0 c1 c2 d0 d1 d2 s2 _ (congrArg some e4)).mono ?_
    rintro e w4 ⟨rfl, hbn⟩
    replace k0_0 := pw_cell_below hbn k0_0
    replace k0_1 := pw_cell_below hbn k0_1
    replace k0_2 := pw_cell_below hbn k0_2
    replace k0_3 := pw_cell_below hbn k0_3
    replace k0_4 := pw_cell_below hbn k0_4
    replace k0_5 := pw_cell_below hbn k0_5
    replace k0_6 := pw_cell_below hbn k0_6
    replace k0_7 := pw_cell_below hbn k0_7
    replace k1_0 := pw_cell_below hbn k1_0
    replace k1_1 := pw_cell_below hbn k1_1
    replace k1_2 := pw_cell_below hbn k1_2
    replace k1_3 := pw_cell_below hbn k1_3
    replace k1_4 := pw_cell_below hbn k1_4
    replace k1_5 := pw_cell_below hbn k1_5
    replace k1_6 := pw_cell_below hbn k1_6
    replace k1_7 := pw_cell_below hbn k1_7
    replace K2 := Lib.hid (blk_below K2.out hbn)
    replace hB := Lib.hid (below_then hB.out hB.out.size hbn)
    clear hbn
    cases s2 with
    | false =>
      go_wp2_with fail
      refine (bounds_truth.calls _ _ _ r0 r1 r2 r3 r4 r5 r6 r7 _ HT).mono ?_
      rintro e w5 ⟨rfl, hbn⟩
      replace k0_0 := pw_cell_below hbn k0_0
      replace k0_1 := pw_cell_below hbn k0_1
      replace k0_2 := pw_cell_below hbn k0_2
      replace k0_3 := pw_cell_below hbn k0_3
      replace k0_4 := pw_cell_below hbn k0_4
      replace k0_5 := pw_cell_below hbn k0_5
      replace k0_6 := pw_cell_below hbn k0_6
      replace k0_7 := pw_cell_below hbn k0_7
      replace k1_0 := pw_cell_below hbn k1_0
      replace k1_1 := pw_cell_below hbn k1_1
      replace k1_2 := pw_cell_below hbn k1_2
      replace k1_3 := pw_cell_below hbn k1_3
      replace k1_4 := pw_cell_below hbn k1_4
      replace k1_5 := pw_cell_below hbn k1_5
      replace k1_6 := pw_cell_below hbn k1_6
      replace k1_7 := pw_cell_below hbn k1_7
      replace K2 := Lib.hid (blk_below K2.out hbn)
      replace hB := Lib.hid (below_then hB.out hB.out.size hbn)
      clear hbn
      have Z := K2.out
      have z0 := blk_frozen Z 0
      have z1 := blk_frozen Z 1
      have z2 := blk_frozen Z 2
      have z3 := blk_frozen Z 3
      have z4 := blk_frozen Z 4
      have z5 := blk_frozen Z 5
      have z6 := blk_frozen Z 6
      have z7 := blk_frozen Z 7
      have y0 := blk_cell Z 0
      have y1 := blk_cell Z 1
      have y2 := blk_cell Z 2
      have y3 := blk_cell Z 3
      have y4 := blk_cell Z 4
      have y5 := blk_cell Z 5
      have y6 := blk_cell Z 6
      have y7 := blk_cell Z 7
      go_wp2
      refine bodyPost_ret (v := .agg #[.bool r0, .bool r1, .int .i64 r2, .int .i64 r3, .string r4, .int .i64 r5, .int .i64 r6, .string r7]) (by simp [results, Tryz.results185, go_sem, *]) rfl ⟨rfl, ?_⟩
      repeat (refine below_set ?_ (by first | exact Nat.le_refl _ | exact Nat.le_add_right _ _ | (show w.heap.size ≤ w.heap.size + 1 + 1; omega)))
      exact hB.out
    | true =>
      cases eq with
      | false =>
        go_wp2_with fail
        refine (bounds_truth.calls _ _ _ r0 r1 r2 r3 r4 r5 r6 r7 _ HT).mono ?_
        rintro e w5 ⟨rfl, hbn⟩
        replace k0_0 := pw_cell_below hbn k0_0
        replace k0_1 := pw_cell_below hbn k0_1
        replace k0_2 := pw_cell_below hbn k0_2
        replace k0_3 := pw_cell_below hbn k0_3
        replace k0_4 := pw_cell_below hbn k0_4
        replace k0_5 := pw_cell_below hbn k0_5
        replace k0_6 := pw_cell_below hbn k0_6
        replace k0_7 := pw_cell_below hbn k0_7
        replace k1_0 := pw_cell_below hbn k1_0
        replace k1_1 := pw_cell_below hbn k1_1
        replace k1_2 := pw_cell_below hbn k1_2
        replace k1_3 := pw_cell_below hbn k1_3
        replace k1_4 := pw_cell_below hbn k1_4
        replace k1_5 := pw_cell_below hbn k1_5
        replace k1_6 := pw_cell_below hbn k1_6
        replace k1_7 := pw_cell_below hbn k1_7
        replace K2 := Lib.hid (blk_below K2.out hbn)
        replace hB := Lib.hid (below_then hB.out hB.out.size hbn)
        clear hbn
        have Z := K2.out
        have z0 := blk_frozen Z 0
        have z1 := blk_frozen Z 1
        have z2 := blk_frozen Z 2
        have z3 := blk_frozen Z 3
        have z4 := blk_frozen Z 4
        have z5 := blk_frozen Z 5
        have z6 := blk_frozen Z 6
        have z7 := blk_frozen Z 7
        have y0 := blk_cell Z 0
        have y1 := blk_cell Z 1
        have y2 := blk_cell Z 2
        have y3 := blk_cell Z 3
        have y4 := blk_cell Z 4
        have y5 := blk_cell Z 5
        have y6 := blk_cell Z 6
        have y7 := blk_cell Z 7
        go_wp2
        refine bodyPost_ret (v := .agg #[.bool r0, .bool r1, .int .i64 r2, .int .i64 r3, .string r4, .int .i64 r5, .int .i64 r6, .string r7]) (by simp [results, Tryz.results185, go_sem, *]) rfl ⟨rfl, ?_⟩
        repeat (refine below_set ?_ (by first | exact Nat.le_refl _ | exact Nat.le_add_right _ _ | (show w.heap.size ≤ w.heap.size + 1 + 1; omega)))
        exact hB.out
      | true =>
        go_wp2_with fail
        refine (bounds_truth.calls _ _ _ r0 r1 r2 r3 r4 r5 r6 r7 _ HT).mono ?_
        rintro e w5 ⟨rfl, hbn⟩
        replace k0_0 := pw_cell_below hbn k0_0
        replace k0_1 := pw_cell_below hbn k0_1
        replace k0_2 := pw_cell_below hbn k0_2
        replace k0_3 := pw_cell_below hbn k0_3
        replace k0_4 := pw_cell_below hbn k0_4
        replace k0_5 := pw_cell_below hbn k0_5
        replace k0_6 := pw_cell_below hbn k0_6
        replace k0_7 := pw_cell_below hbn k0_7
        replace k1_0 := pw_cell_below hbn k1_0
        replace k1_1 := pw_cell_below hbn k1_1
        replace k1_2 := pw_cell_below hbn k1_2
        replace k1_3 := pw_cell_below hbn k1_3
        replace k1_4 := pw_cell_below hbn k1_4
        replace k1_5 := pw_cell_below hbn k1_5
        replace k1_6 := pw_cell_below hbn k1_6
        replace k1_7 := pw_cell_below hbn k1_7
        replace K2 := Lib.hid (blk_below K2.out hbn)
        replace hB := Lib.hid (below_then hB.out hB.out.size hbn)
        clear hbn
        have Z := K2.out
        have z0 := blk_frozen Z 0
        have z1 := blk_frozen Z 1
        have z2 := blk_frozen Z 2
        have z3 := blk_frozen Z 3
        have z4 := blk_frozen Z 4
        have z5 := blk_frozen Z 5
        have z6 := blk_frozen Z 6
        have z7 := blk_frozen Z 7
        have y0 := blk_cell Z 0
        have y1 := blk_cell Z 1
        have y2 := blk_cell Z 2
        have y3 := blk_cell Z 3
        have y4 := blk_cell Z 4
        have y5 := blk_cell Z 5
        have y6 := blk_cell Z 6
        have y7 := blk_cell Z 7
        go_wp2
        refine bodyPost_ret (v := .agg #[.bool r0, .bool r1, .int .i64 r2, .int .i64 r3, .string r4, .int .i64 r5, .int .i64 r6, .string r7]) (by simp [results, Tryz.results185, go_sem, *]) rfl ⟨rfl, ?_⟩
        repeat (refine below_set ?_ (by first | exact Nat.le_refl _ | exact Nat.le_add_right _ _ | (show w.heap.size ≤ w.heap.size + 1 + 1; omega)))
        exact hB.out
def bounds_span_equal.ne (a0_0 a0_1 : Bool) (a0_2 a0_3 : Int) (a0_4 : ByteArray) (a0_5 a0_6 : Int) (a0_7 : ByteArray) (a1_0 a1_1 : Bool) (a1_2 a1_3 : Int) (a1_4 : ByteArray) (a1_5 a1_6 : Int) (a1_7 : ByteArray) : Bool := !((a0_2 == a0_5 && (a0_3 == a0_6 && (a0_4.toList == a0_7.toList))) && (a1_2 == a1_5 && (a1_3 == a1_6 && (a1_4.toList == a1_7.toList))) && (a0_2 == a1_2 && (a0_3 == a1_3 && (a0_4.toList == a1_4.toList))))
def bounds_span_equal.f (k : Nat) (a0_0 a0_1 : Bool) (a0_2 a0_3 : Int) (a0_4 : ByteArray) (a0_5 a0_6 : Int) (a0_7 : ByteArray) (a1_0 a1_1 : Bool) (a1_2 a1_3 : Int) (a1_4 : ByteArray) (a1_5 a1_6 : Int) (a1_7 : ByteArray) : Option (Bool × Bool × Int × Int × ByteArray × Int × Int × ByteArray) :=
  (value_Cmp.f k a0_5 a0_6 a0_7 a1_2 a1_3 a1_4).bind fun p => if p < 0 then bounds_truth.f (bounds_span_equal.ne a0_0 a0_1 a0_2 a0_3 a0_4 a0_5 a0_6 a0_7 a1_0 a1_1 a1_2 a1_3 a1_4 a1_5 a1_6 a1_7) false false else
    (value_Cmp.f k a1_5 a1_6 a1_7 a0_2 a0_3 a0_4).bind fun q => bounds_truth.f (bounds_span_equal.ne a0_0 a0_1 a0_2 a0_3 a0_4 a0_5 a0_6 a0_7 a1_0 a1_1 a1_2 a1_3 a1_4 a1_5 a1_6 a1_7) (!decide (q < 0)) false
theorem bounds_span_equal.calls (k : Nat) (a0_0 a0_1 : Bool) (a0_2 a0_3 : Int) (a0_4 : ByteArray) (a0_5 a0_6 : Int) (a0_7 : ByteArray) (a1_0 a1_1 : Bool) (a1_2 a1_3 : Int) (a1_4 : ByteArray) (a1_5 a1_6 : Int) (a1_7 : ByteArray) (r0 r1 : Bool) (r2 r3 : Int) (r4 : ByteArray) (r5 r6 : Int) (r7 : ByteArray) (w : World) (h : bounds_span_equal.f k a0_0 a0_1 a0_2 a0_3 a0_4 a0_5 a0_6 a0_7 a1_0 a1_1 a1_2 a1_3 a1_4 a1_5 a1_6 a1_7 = some (r0, r1, r2, r3, r4, r5, r6, r7)) :
    Calls Tryz.prog 185 #[.agg #[.bool a0_0, .bool a0_1, .int .i64 a0_2, .int .i64 a0_3, .string a0_4, .int .i64 a0_5, .int .i64 a0_6, .string a0_7], .agg #[.bool a1_0, .bool a1_1, .int .i64 a1_2, .int .i64 a1_3, .string a1_4, .int .i64 a1_5, .int .i64 a1_6, .string a1_7]] w fun e w' => e = .returned (.agg #[.bool r0, .bool r1, .int .i64 r2, .int .i64 r3, .string r4, .int .i64 r5, .int .i64 r6, .string r7]) ∧ Below w.heap.size w w' := by
  obtain ⟨p, hp, h⟩ := Option.bind_eq_some_iff.1 h
  split at h
  · exact bounds_span_equal.less k _ _ _ _ _ _ _ _ _ _ _ _ _ _ _ _ p 0 _ _ _ (decide_eq_true (by assumption)) hp rfl rfl rfl _ _ _ _ _ _ _ _ h w
  · obtain ⟨q, hq, h⟩ := Option.bind_eq_some_iff.1 h
    cases hd : decide (q < 0)
    · exact bounds_span_equal.meet k _ _ _ _ _ _ _ _ _ _ _ _ _ _ _ _ p q _ _ _ (decide_eq_false (by assumption)) hp hd hq rfl rfl rfl _ _ _ _ _ _ _ _ (by rw [hd] at h; exact h) w
    · exact bounds_span_equal.most k _ _ _ _ _ _ _ _ _ _ _ _ _ _ _ _ p q _ _ _ (decide_eq_false (by assumption)) hp hd hq rfl rfl rfl _ _ _ _ _ _ _ _ (by rw [hd] at h; exact h) w
end Go.Proofs.YteflfnjljjianaaGreatDoor.Qx
namespace Go.Proofs.YteflfnjljjianaaGreatDoor.Qx
open Go.RowKit Go.Proofs.YteflfnjljjianaaGreatDoorW.PrintWords Go.Proofs.YteflfnjljjianaaGreatDoorW.PrintLast Go.Proofs.YteflfnjljjianaaGreatDoorW.PrintMore
attribute [local go_sem] max2_int min2_int max_two min_two
set_option linter.unusedVariables false
set_option linter.unusedSimpArgs false
def expr_Conjuncts.f : Nat → Int → Int → Int → Int → ByteArray → List (S38) → Option ((List (S38)))
  | 0, _, _, _, _, _, _ => none
  | k + 1, a0_0, a0_1, a0_2, a0_3, a0_4, l0_5 => if a0_0 = 6 then (if 0 < (l0_5.length : Int) then ((expr_Conjuncts.f k ((rd_T38 l0_5 0).f0) ((rd_T38 l0_5 0).f1) ((rd_T38 l0_5 0).f2.f0) ((rd_T38 l0_5 0).f2.f1) ((rd_T38 l0_5 0).f2.f2) ((rd_T38 l0_5 0).f3)).bind fun t103 => (if 1 < (l0_5.length : Int) then ((expr_Conjuncts.f k ((rd_T38 l0_5 1).f0) ((rd_T38 l0_5 1).f1) ((rd_T38 l0_5 1).f2.f0) ((rd_T38 l0_5 1).f2.f1) ((rd_T38 l0_5 1).f2.f2) ((rd_T38 l0_5 1).f3)).bind fun t107 => (if t103.length + t107.length < 1954687338268 then (some (t103 ++ t107)) else (none))) else (none))) else (none)) else (some (([(⟨a0_0, a0_1, (⟨a0_2, a0_3, a0_4⟩ : S35), l0_5⟩ : S38)] : List (S38))))
def expr_Conjuncts.T3 : Bool × List (List Nat × List Nat) := (true, [([], []), ([0], [0]), ([1], [1]), ([2], [2]), ([3], [3]), ([], []), ([5], [5]), ([6], [6]), ([7], [7]), ([8, 4], [8]), ([4, 9, 9], [4, 9]), ([10, 10, 0, 1, 2, 3, 4, 5, 6, 7, 8, 9, 10], [10])])
def expr_Conjuncts.B3 : List Nat := [0, 1, 3, 7, 15, 0, 32, 96, 224, 511, 1023, 2047]
theorem expr_Conjuncts.tab3 : rtab .any (opsOf Tryz.f99 3) = expr_Conjuncts.T3 := by kernel_rfl
theorem expr_Conjuncts.bits3 : waitsOk expr_Conjuncts.T3.2 expr_Conjuncts.B3 = true := by kernel_rfl
set_option maxHeartbeats 8000000 in
set_option maxRecDepth 100000 in
theorem expr_Conjuncts.calls (k : Nat) : ∀ (a0_0 : Int) (a0_1 : Int) (a0_2 : Int) (a0_3 : Int) (a0_4 : ByteArray) (P0_5_ : Nat → Prop) (A0_5 : Option Addr) (c0_5 : Nat) (l0_5 : List (S38)) (r : List (S38)) (w : World) (hs0_5 : Kd.V k38 38 w w.heap.size (fun k_ => P0_5_ k_) (.slice A0_5 l0_5.length c0_5) l0_5) (h : expr_Conjuncts.f k a0_0 a0_1 a0_2 a0_3 a0_4 l0_5 = some r),
    Calls Tryz.prog 99 #[.agg #[.int .i64 a0_0, .int .i64 a0_1, .int .i64 a0_2, .int .i64 a0_3, .string a0_4, .slice A0_5 l0_5.length c0_5]] w fun e w' => ∃ v0_ : Value, e = .returned (v0_) ∧ Kd.N k38 38 w' w.heap.size (fun k_ => (P0_5_ k_ ∨ w.heap.size ≤ k_)) v0_ r ∧ Below w.heap.size w w' := by
  induction k using Nat.strongRecOn with
  | _ k ih =>
  intro a0_0 a0_1 a0_2 a0_3 a0_4 P0_5_ A0_5 c0_5 l0_5 r w hs0_5 h
  cases k with
  | zero => exact absurd h (by simp [expr_Conjuncts.f])
  | succ k =>
  simp only [expr_Conjuncts.f] at h
  have hu38 := Tryz.underlying38
  have HO0_5 := Aside0.mk (show Kd.V k38 38 w w.heap.size (fun k_ => (P0_5_ k_ ∨ w.heap.size ≤ k_)) (.slice A0_5 l0_5.length c0_5) l0_5 from Kd.V_mono hs0_5 (fun k_ hk => .inl hk))
  have HB := Aside0.mk (Below.refl w.heap.size w)
  have H : (if a0_0 = 6 then (if 0 < (l0_5.length : Int) then ((expr_Conjuncts.f k ((rd_T38 l0_5 0).f0) ((rd_T38 l0_5 0).f1) ((rd_T38 l0_5 0).f2.f0) ((rd_T38 l0_5 0).f2.f1) ((rd_T38 l0_5 0).f2.f2) ((rd_T38 l0_5 0).f3)).bind fun t103 => (if 1 < (l0_5.length : Int) then ((expr_Conjuncts.f k ((rd_T38 l0_5 1).f0) ((rd_T38 l0_5 1).f1) ((rd_T38 l0_5 1).f2.f0) ((rd_T38 l0_5 1).f2.f1) ((rd_T38 l0_5 1).f2.f2) ((rd_T38 l0_5 1).f3)).bind fun t107 => (if t103.length + t107.length < 1954687338268 then (some (t103 ++ t107)) else (none))) else (none))) else (none)) else (some (([(⟨a0_0, a0_1, (⟨a0_2, a0_3, a0_4⟩ : S35), l0_5⟩ : S38)] : List (S38))))) = some r := h
  clear h
  by_cases c2 : a0_0 = 6
  · rw [if_pos c2] at H
    have c2b0 : (a0_0 == 6) = true := beq_iff_eq.mpr c2
    have c2b1 : (a0_0 != 6) = false := bne_eq_false_iff_eq.mpr c2
    clear c2
    by_cases c3 : 0 < (l0_5.length : Int)
    · rw [if_pos c3] at H
      have c3b0 : decide (0 < (l0_5.length : Int)) = true := decide_eq_true c3
      have c3b1 : decide (0 < l0_5.length) = true := decide_eq_true (by omega)
      clear c3
      replace H := Option.bind_eq_some_iff.mp H
      obtain ⟨t103, A40, H⟩ := H
      replace H : (if 1 < (l0_5.length : Int) then ((expr_Conjuncts.f k ((rd_T38 l0_5 1).f0) ((rd_T38 l0_5 1).f1) ((rd_T38 l0_5 1).f2.f0) ((rd_T38 l0_5 1).f2.f1) ((rd_T38 l0_5 1).f2.f2) ((rd_T38 l0_5 1).f3)).bind fun t107 => (if t103.length + t107.length < 1954687338268 then (some (t103 ++ t107)) else (none))) else (none)) = some r := H
      have A4 := Aside0.mk A40
      clear A40
      by_cases c5 : 1 < (l0_5.length : Int)
      · rw [if_pos c5] at H
        have c5b0 : decide (1 < (l0_5.length : Int)) = true := decide_eq_true c5
        have c5b1 : decide (1 < l0_5.length) = true := decide_eq_true (by omega)
        clear c5
        replace H := Option.bind_eq_some_iff.mp H
        obtain ⟨t107, A60, H⟩ := H
        replace H : (if t103.length + t107.length < 1954687338268 then (some (t103 ++ t107)) else (none)) = some r := H
        have A6 := Aside0.mk A60
        clear A60
        by_cases c7 : t103.length + t107.length < 1954687338268
        · rw [if_pos c7] at H
          have LMc7 := Aside0.mk c7
          clear c7
          obtain ⟨y110, hy110⟩ : ∃ y_ : List (S38), y_ = (t103 ++ t107) := ⟨_, rfl⟩
          replace H : (some y110) = some r := by first | (rw [hy110]; with_reducible exact H) | (have H2_ := (Option.bind_some _ _).symm.trans H; rw [hy110]; with_reducible exact H2_) | (have H2_ := (Option.bind_some _ _).symm.trans H; with_reducible exact H2_) | with_reducible exact H | (rw [hy110]; exact H) | exact H
          have Ny110 := Aside0.mk hy110
          clear hy110
          obtain rfl := Option.some.inj H
          go_enter Tryz.func99, Tryz.ntmps99
          try go_wp2_with (first | ((with_reducible refine gate_dst (N := 1) rfl ?_); refine box_event ?hg (N := 1) ?hd (cs := #[.int .i64 a0_0, .int .i64 a0_1, .int .i64 a0_2, .int .i64 a0_3, .string a0_4, .slice A0_5 l0_5.length c0_5]) (t := 38) ?hr ?_; (case hd => rfl); (case hg => rfl); (case hr => first | (go_simp; done) | (go_simp; rfl)); intro gb101 hg w8 hbox hb; have n0_ := Aside0.mk (Kd.V_below (Kd.V_elderB (by (with_reducible repeat (first | apply Kd.V_alloc | apply Kd.V_drewN | apply Kd.V_drew)); exact HO0_5.out) gb101 (Nat.le_of_eq hg.symm)) hb); have n1_ := Aside0.mk (below_step (by repeat (first | (with_reducible first | exact HB.out | apply below_alloc | apply pw_below_drewN | apply below_drew1) | exact HB.out)) hb); have n2_ := Aside0.mk (hbox); have n3_ := Aside0.mk ((by rw [hg]; exact (below_size (by repeat (first | (with_reducible first | exact HB.out | apply below_alloc | apply pw_below_drewN | apply below_drew1) | exact HB.out))) : w.heap.size ≤ gb101)); have n4_ := Aside0.mk ((by rw [hg]; exact (below_size (by repeat (first | (with_reducible first | exact HB.out | apply below_alloc | apply pw_below_drewN | apply below_drew1) | exact HB.out))) : w.heap.size ≤ gb101)); clear HO0_5; clear HB; have HO0_5 := n0_; have HB := n1_; have BK101 := n2_; have GW101 := n3_; have GE101 := n4_; clear n0_ n1_ n2_ n3_ n4_; clear hb hbox hg; have hcz9_0 : w8.cell? ⟨gb101, 0, none⟩ = some (.int .i64 a0_0) := (blk_cell BK101.out 0).trans rfl; have hcz9_1 : w8.cell? ⟨gb101, 1, none⟩ = some (.int .i64 a0_1) := (blk_cell BK101.out 1).trans rfl; have hcz9_2 : w8.cell? ⟨gb101, 2, none⟩ = some (.int .i64 a0_2) := (blk_cell BK101.out 2).trans rfl; have hcz9_3 : w8.cell? ⟨gb101, 3, none⟩ = some (.int .i64 a0_3) := (blk_cell BK101.out 3).trans rfl; have hcz9_4 : w8.cell? ⟨gb101, 4, none⟩ = some (.string a0_4) := (blk_cell BK101.out 4).trans rfl; have hcz9_5 : w8.cell? ⟨gb101, 5, none⟩ = some (.slice A0_5 l0_5.length c0_5) := (blk_cell BK101.out 5).trans rfl; have hfz9_0 := blk_frozen BK101.out 0; have hfz9_1 := blk_frozen BK101.out 1; have hfz9_2 := blk_frozen BK101.out 2; have hfz9_3 := blk_frozen BK101.out 3; have hfz9_4 := blk_frozen BK101.out 4; have hfz9_5 := blk_frozen BK101.out 5))
          have n0_ := Aside0.mk (Kd.V_drew HO0_5.out)
          have n1_ := Aside0.mk (blk_drew BK101.out)
          have n2_ := Aside0.mk (below_drew1 HB.out)
          clear HO0_5
          clear BK101
          clear HB
          have HO0_5 := n0_
          have BK101 := n1_
          have HB := n2_
          clear n0_ n1_ n2_
          have p102 : 0 ≤ (0 : Int) := (by omega)
          have q102 : 0 < (l0_5.length : Int) := of_decide_eq_true (by first | (with_reducible assumption) | assumption)
          obtain ⟨ad102, A102_5, c102_5, e102, hx102_0, hx102_1, hx102_2, hx102_3, hx102_4, hx102_5, hl102_5, hi102_5⟩ := at_T38 (Kd.V_reads' HO0_5.out).2.2 0 p102 q102
          cases e102
          obtain ⟨ce102, hce102, hMe102, hcc102⟩ := Kd.V_get HO0_5.out z38 0 p102 (by first | exact q102 | exact of_decide_eq_true (by first | (with_reducible assumption) | assumption) | (have e_ := (Kd.V_reads' HO0_5.out).1; omega))
          obtain ⟨ua102_5, uc102_5, rfl, ul102_5, ge102_5⟩ := k38_openF hMe102
          have hv102_5 := hcc102 5 _ rfl
          rw [add_field _ _ 5 (by omega)] at hv102_5
          replace hv102_5 := Option.some.inj (hv102_5.symm.trans hx102_5)
          injection hv102_5 with hva_ hvn_ hvc_
          rw [hva_] at ge102_5
          rw [hvc_] at ul102_5
          have HL102_5 := Aside0.mk (show Kd.V k38 38 _ w.heap.size _ _ ((rd_T38 l0_5 0).f3) from Kd.V_mk ul102_5 ge102_5)
          clear hva_ hvn_ hvc_ ge102_5 ul102_5
          clear hcc102 hce102
          have qi102 : (0 < l0_5.length) = True := eq_true (by omega)
          (try rw [show ((0 : Int)).toNat = 0 from rfl] at hx102_0)
          (try rw [show 0 * 6 = 0 from rfl] at hx102_0)
          (try rw [Addr.add_zero'] at hx102_0)
          (try rw [show ((0 : Int)).toNat = 0 from rfl] at hx102_1)
          (try rw [show 0 * 6 = 0 from rfl] at hx102_1)
          (try rw [Addr.add_zero'] at hx102_1)
          (try rw [show ((0 : Int)).toNat = 0 from rfl] at hx102_2)
          (try rw [show 0 * 6 = 0 from rfl] at hx102_2)
          (try rw [Addr.add_zero'] at hx102_2)
          (try rw [show ((0 : Int)).toNat = 0 from rfl] at hx102_3)
          (try rw [show 0 * 6 = 0 from rfl] at hx102_3)
          (try rw [Addr.add_zero'] at hx102_3)
          (try rw [show ((0 : Int)).toNat = 0 from rfl] at hx102_4)
          (try rw [show 0 * 6 = 0 from rfl] at hx102_4)
          (try rw [Addr.add_zero'] at hx102_4)
          (try rw [show ((0 : Int)).toNat = 0 from rfl] at hx102_5)
          (try rw [show 0 * 6 = 0 from rfl] at hx102_5)
          (try rw [Addr.add_zero'] at hx102_5)
          have HR102_5 := Aside0.mk hi102_5
          have HC102_5 := Aside0.mk hl102_5
          clear hi102_5 hl102_5
          replace p102 := eq_true p102
          replace q102 := eq_true q102
          have p106 : 0 ≤ (1 : Int) := (by omega)
          have q106 : 1 < (l0_5.length : Int) := of_decide_eq_true (by first | (with_reducible assumption) | assumption)
          obtain ⟨ad106, A106_5, c106_5, e106, hx106_0, hx106_1, hx106_2, hx106_3, hx106_4, hx106_5, hl106_5, hi106_5⟩ := at_T38 (Kd.V_reads' HO0_5.out).2.2 1 p106 q106
          obtain rfl : ad102 = ad106 := (by injection e106)
          obtain ⟨ce106, hce106, hMe106, hcc106⟩ := Kd.V_get HO0_5.out z38 1 p106 (by first | exact q106 | exact of_decide_eq_true (by first | (with_reducible assumption) | assumption) | (have e_ := (Kd.V_reads' HO0_5.out).1; omega))
          obtain ⟨ua106_5, uc106_5, rfl, ul106_5, ge106_5⟩ := k38_openF hMe106
          have hv106_5 := hcc106 5 _ rfl
          rw [add_field _ _ 5 (by omega)] at hv106_5
          replace hv106_5 := Option.some.inj (hv106_5.symm.trans hx106_5)
          injection hv106_5 with hva_ hvn_ hvc_
          rw [hva_] at ge106_5
          rw [hvc_] at ul106_5
          have HL106_5 := Aside0.mk (show Kd.V k38 38 _ w.heap.size _ _ ((rd_T38 l0_5 1).f3) from Kd.V_mk ul106_5 ge106_5)
          clear hva_ hvn_ hvc_ ge106_5 ul106_5
          clear hcc106 hce106
          (try simp only [show (1 : Int).toNat = 1 from rfl, Nat.reduceMul, Nat.reduceEqDiff, Go.Addr.add, ↓reduceIte] at hx106_0)
          (try simp only [show (1 : Int).toNat = 1 from rfl, Nat.reduceMul, Nat.reduceEqDiff, Go.Addr.add, ↓reduceIte] at hx106_1)
          (try simp only [show (1 : Int).toNat = 1 from rfl, Nat.reduceMul, Nat.reduceEqDiff, Go.Addr.add, ↓reduceIte] at hx106_2)
          (try simp only [show (1 : Int).toNat = 1 from rfl, Nat.reduceMul, Nat.reduceEqDiff, Go.Addr.add, ↓reduceIte] at hx106_3)
          (try simp only [show (1 : Int).toNat = 1 from rfl, Nat.reduceMul, Nat.reduceEqDiff, Go.Addr.add, ↓reduceIte] at hx106_4)
          (try simp only [show (1 : Int).toNat = 1 from rfl, Nat.reduceMul, Nat.reduceEqDiff, Go.Addr.add, ↓reduceIte] at hx106_5)
          have qi106 : (1 < l0_5.length) = True := eq_true (by omega)
          (try rw [show ((1 : Int)).toNat = 1 from rfl] at hx106_0)
          (try rw [show 1 * 6 = 6 from rfl] at hx106_0)
          (try rw [show ((1 : Int)).toNat = 1 from rfl] at hx106_1)
          (try rw [show 1 * 6 = 6 from rfl] at hx106_1)
          (try rw [show ((1 : Int)).toNat = 1 from rfl] at hx106_2)
          (try rw [show 1 * 6 = 6 from rfl] at hx106_2)
          (try rw [show ((1 : Int)).toNat = 1 from rfl] at hx106_3)
          (try rw [show 1 * 6 = 6 from rfl] at hx106_3)
          (try rw [show ((1 : Int)).toNat = 1 from rfl] at hx106_4)
          (try rw [show 1 * 6 = 6 from rfl] at hx106_4)
          (try rw [show ((1 : Int)).toNat = 1 from rfl] at hx106_5)
          (try rw [show 1 * 6 = 6 from rfl] at hx106_5)
          have HR106_5 := Aside0.mk hi106_5
          have HC106_5 := Aside0.mk hl106_5
          clear hi106_5 hl106_5
          replace p106 := eq_true p106
          replace q106 := eq_true q106
          refine start_ (n := 12) (S := fun w' => w'.cell? ⟨gb101, 0, none⟩ = some (.int .i64 a0_0) ∧ w'.cell? ⟨gb101, 1, none⟩ = some (.int .i64 a0_1) ∧ w'.cell? ⟨gb101, 2, none⟩ = some (.int .i64 a0_2) ∧ w'.cell? ⟨gb101, 3, none⟩ = some (.int .i64 a0_3) ∧ w'.cell? ⟨gb101, 4, none⟩ = some (.string a0_4) ∧ w'.cell? ⟨gb101, 5, none⟩ = some (.slice (some ad102) l0_5.length c0_5) ∧ w'.cell? ad102 = some (.int .i64 ((rd_T38 l0_5 0).f0)) ∧ w'.cell? ⟨ad102.block, ad102.off + 1, none⟩ = some (.int .i64 ((rd_T38 l0_5 0).f1)) ∧ w'.cell? ⟨ad102.block, ad102.off + 2, none⟩ = some (.int .i64 ((rd_T38 l0_5 0).f2.f0)) ∧ w'.cell? ⟨ad102.block, ad102.off + 3, none⟩ = some (.int .i64 ((rd_T38 l0_5 0).f2.f1)) ∧ w'.cell? ⟨ad102.block, ad102.off + 4, none⟩ = some (.string ((rd_T38 l0_5 0).f2.f2)) ∧ w'.cell? ⟨ad102.block, ad102.off + 5, none⟩ = some (.slice A102_5 ((rd_T38 l0_5 0).f3).length c102_5) ∧ w'.cell? ⟨ad102.block, ad102.off + 6, none⟩ = some (.int .i64 ((rd_T38 l0_5 1).f0)) ∧ w'.cell? ⟨ad102.block, ad102.off + 6 + 1, none⟩ = some (.int .i64 ((rd_T38 l0_5 1).f1)) ∧ w'.cell? ⟨ad102.block, ad102.off + 6 + 2, none⟩ = some (.int .i64 ((rd_T38 l0_5 1).f2.f0)) ∧ w'.cell? ⟨ad102.block, ad102.off + 6 + 3, none⟩ = some (.int .i64 ((rd_T38 l0_5 1).f2.f1)) ∧ w'.cell? ⟨ad102.block, ad102.off + 6 + 4, none⟩ = some (.string ((rd_T38 l0_5 1).f2.f2)) ∧ w'.cell? ⟨ad102.block, ad102.off + 6 + 5, none⟩ = some (.slice A106_5 ((rd_T38 l0_5 1).f3).length c106_5)) (ds := [10]) #[false, false, false, false, false, false, false, false, false, false, false, false] (by kernel_rfl) rfl rfl ⟨(blk_cell BK101.out 0).trans rfl, (blk_cell BK101.out 1).trans rfl, (blk_cell BK101.out 2).trans rfl, (blk_cell BK101.out 3).trans rfl, (blk_cell BK101.out 4).trans rfl, (blk_cell BK101.out 5).trans rfl, hx102_0, hx102_1, hx102_2, hx102_3, hx102_4, hx102_5, hx106_0, hx106_1, hx106_2, hx106_3, hx106_4, hx106_5⟩ (fun hHeld => ?_); refine with_tabW expr_Conjuncts.tab3 expr_Conjuncts.bits3 (fun HT_ HW_ => ?_)
          generalize w8.drew = w10 at HO0_5 BK101 HB HL102_5 HL106_5 HR102_5 HR106_5 hx102_0 hx102_1 hx102_2 hx102_3 hx102_4 hx102_5 hx106_0 hx106_1 hx106_2 hx106_3 hx106_4 hx106_5 hHeld ⊢
          refine pure_ (i := 0) (N := some 8) (v := ?_) (a' := ?_) #[true, false, false, false, false, false, false, false, false, false, false, false] rfl rfl (any_of HT_.out (by kernel_rfl)) (fun _ _ _ h => h) (Or.inl ⟨by rfl, ?_⟩) ?_ ?_
          rotate_left
          · intro w'
            go_simp
            with_reducible rfl
          rotate_left
          · simp only [Act.put, List.setIfInBounds_toArray, List.set_cons_zero, List.set_cons_succ, i64_w, i32_w]
            rfl
          refine pure_ (i := 5) (N := some 13) (v := ?_) (a' := ?_) #[true, false, false, false, false, true, false, false, false, false, false, false] rfl rfl (any_of HT_.out (by kernel_rfl)) (fun _ _ _ h => h) (Or.inl ⟨by rfl, ?_⟩) ?_ ?_
          rotate_left
          · intro w'
            go_simp
            with_reducible rfl
          rotate_left
          · simp only [Act.put, List.setIfInBounds_toArray, List.set_cons_zero, List.set_cons_succ, i64_w, i32_w]
            rfl
          refine take_ (i := 1) (N := some 9) (v := ?_) (a' := ?_) #[true, true, false, false, false, true, false, false, false, false, false, false] rfl rfl (take_ofW HT_.out HW_.out (by kernel_rfl)) (fun _ _ _ h => h) (Or.inl ⟨by rfl, ?_⟩) hHeld ?_ ?_
          rotate_left
          · rintro w' ⟨s0, s1, s2, s3, s4, s5, s6, s7, s8, s9, s10, s11, s12, s13, s14, s15, s16, s17⟩
            go_simp
            with_reducible rfl
          rotate_left
          · simp only [Act.put, List.setIfInBounds_toArray, List.set_cons_zero, List.set_cons_succ, i64_w, i32_w]
            rfl
          refine pure_ (i := 2) (N := some 10) (v := ?_) (a' := ?_) #[true, true, true, false, false, true, false, false, false, false, false, false] rfl rfl (any_of HT_.out (by kernel_rfl)) (fun _ _ _ h => h) (Or.inl ⟨by rfl, ?_⟩) ?_ ?_
          rotate_left
          · intro w'
            go_simp
            with_reducible rfl
          rotate_left
          · simp only [Act.put, List.setIfInBounds_toArray, List.set_cons_zero, List.set_cons_succ, i64_w, i32_w]
            rfl
          refine take_ (i := 3) (N := some 11) (v := ?_) (a' := ?_) #[true, true, true, true, false, true, false, false, false, false, false, false] rfl rfl (take_ofW HT_.out HW_.out (by kernel_rfl)) (fun _ _ _ h => h) (Or.inl ⟨by rfl, ?_⟩) hHeld ?_ ?_
          rotate_left
          · rintro w' ⟨s0, s1, s2, s3, s4, s5, s6, s7, s8, s9, s10, s11, s12, s13, s14, s15, s16, s17⟩
            go_simp
            with_reducible rfl
          rotate_left
          · simp only [Act.put, List.setIfInBounds_toArray, List.set_cons_zero, List.set_cons_succ, i64_w, i32_w]
            rfl
          refine take_ (i := 6) (N := some 14) (v := ?_) (a' := ?_) #[true, true, true, true, false, true, true, false, false, false, false, false] rfl rfl (take_ofW HT_.out HW_.out (by kernel_rfl)) (fun _ _ _ h => h) (Or.inl ⟨by rfl, ?_⟩) hHeld ?_ ?_
          rotate_left
          · rintro w' ⟨s0, s1, s2, s3, s4, s5, s6, s7, s8, s9, s10, s11, s12, s13, s14, s15, s16, s17⟩
            go_simp
            with_reducible rfl
          rotate_left
          · simp only [Act.put, List.setIfInBounds_toArray, List.set_cons_zero, List.set_cons_succ, i64_w, i32_w]
            rfl
          refine pure_ (i := 7) (N := some 15) (v := ?_) (a' := ?_) #[true, true, true, true, false, true, true, true, false, false, false, false] rfl rfl (any_of HT_.out (by kernel_rfl)) (fun _ _ _ h => h) (Or.inl ⟨by rfl, ?_⟩) ?_ ?_
          rotate_left
          · intro w'
            go_simp
            with_reducible rfl
          rotate_left
          · simp only [Act.put, List.setIfInBounds_toArray, List.set_cons_zero, List.set_cons_succ, i64_w, i32_w]
            rfl
          refine take_ (i := 8) (N := some 16) (v := ?_) (a' := ?_) #[true, true, true, true, false, true, true, true, true, false, false, false] rfl rfl (take_ofW HT_.out HW_.out (by kernel_rfl)) (fun _ _ _ h => h) (Or.inl ⟨by rfl, ?_⟩) hHeld ?_ ?_
          rotate_left
          · rintro w' ⟨s0, s1, s2, s3, s4, s5, s6, s7, s8, s9, s10, s11, s12, s13, s14, s15, s16, s17⟩
            go_simp
            with_reducible rfl
          rotate_left
          · simp only [Act.put, List.setIfInBounds_toArray, List.set_cons_zero, List.set_cons_succ, i64_w, i32_w]
            rfl
          refine one_ (i := 4) (N := some 12) #[true, true, true, true, true, true, true, true, true, false, false, false] rfl rfl (one_of HT_.out (by kernel_rfl)) (by decide) (fun K hK => ?_)
          refine goes_ Tryz.func99 (by kernel_rfl) rfl #[.agg #[.int .i64 ((rd_T38 l0_5 0).f0), .int .i64 ((rd_T38 l0_5 0).f1), .int .i64 ((rd_T38 l0_5 0).f2.f0), .int .i64 ((rd_T38 l0_5 0).f2.f1), .string ((rd_T38 l0_5 0).f2.f2), .slice A102_5 ((rd_T38 l0_5 0).f3).length c102_5]] (by rfl) rfl rfl (by (try simp only [List.map_toArray, List.map_cons, List.map_nil]); first | done | rfl | (simp only [List.length_drop, List.length_take]; rfl)) ?_
          with_reducible refine (ih k (by omega) ((rd_T38 l0_5 0).f0) ((rd_T38 l0_5 0).f1) ((rd_T38 l0_5 0).f2.f0) ((rd_T38 l0_5 0).f2.f1) ((rd_T38 l0_5 0).f2.f2) (fun k_ => ((P0_5_ k_ ∨ w.heap.size ≤ k_) ∧ k_ ≠ gb101)) _ _ ((rd_T38 l0_5 0).f3) t103 _ ?side1 A4.out).mono ?_
          (case side1 => exact HL102_5.out)
          rintro e w11 ⟨v104, rfl, ho0, hb⟩
          have HS6_ := (hb.cell (World.block_lt_of_cell? _ _ (hHeld.2.2.2.2.2.2.1))).trans (hHeld.2.2.2.2.2.2.1)
          have HS7_ := (hb.cell (World.block_lt_of_cell? _ _ (hHeld.2.2.2.2.2.2.2.1))).trans (hHeld.2.2.2.2.2.2.2.1)
          have HS8_ := (hb.cell (World.block_lt_of_cell? _ _ (hHeld.2.2.2.2.2.2.2.2.1))).trans (hHeld.2.2.2.2.2.2.2.2.1)
          have HS9_ := (hb.cell (World.block_lt_of_cell? _ _ (hHeld.2.2.2.2.2.2.2.2.2.1))).trans (hHeld.2.2.2.2.2.2.2.2.2.1)
          have HS10_ := (hb.cell (World.block_lt_of_cell? _ _ (hHeld.2.2.2.2.2.2.2.2.2.2.1))).trans (hHeld.2.2.2.2.2.2.2.2.2.2.1)
          have HS11_ := (hb.cell (World.block_lt_of_cell? _ _ (hHeld.2.2.2.2.2.2.2.2.2.2.2.1))).trans (hHeld.2.2.2.2.2.2.2.2.2.2.2.1)
          have HS12_ := (hb.cell (World.block_lt_of_cell? _ _ (hHeld.2.2.2.2.2.2.2.2.2.2.2.2.1))).trans (hHeld.2.2.2.2.2.2.2.2.2.2.2.2.1)
          have HS13_ := (hb.cell (World.block_lt_of_cell? _ _ (hHeld.2.2.2.2.2.2.2.2.2.2.2.2.2.1))).trans (hHeld.2.2.2.2.2.2.2.2.2.2.2.2.2.1)
          have HS14_ := (hb.cell (World.block_lt_of_cell? _ _ (hHeld.2.2.2.2.2.2.2.2.2.2.2.2.2.2.1))).trans (hHeld.2.2.2.2.2.2.2.2.2.2.2.2.2.2.1)
          have HS15_ := (hb.cell (World.block_lt_of_cell? _ _ (hHeld.2.2.2.2.2.2.2.2.2.2.2.2.2.2.2.1))).trans (hHeld.2.2.2.2.2.2.2.2.2.2.2.2.2.2.2.1)
          have HS16_ := (hb.cell (World.block_lt_of_cell? _ _ (hHeld.2.2.2.2.2.2.2.2.2.2.2.2.2.2.2.2.1))).trans (hHeld.2.2.2.2.2.2.2.2.2.2.2.2.2.2.2.2.1)
          have HS17_ := (hb.cell (World.block_lt_of_cell? _ _ (hHeld.2.2.2.2.2.2.2.2.2.2.2.2.2.2.2.2.2))).trans (hHeld.2.2.2.2.2.2.2.2.2.2.2.2.2.2.2.2.2)
          refine ⟨_, rfl, ?_⟩
          have n0_ := Aside0.mk (Kd.V_elder' (by (with_reducible repeat (first | apply Kd.V_alloc | apply Kd.V_drewN | apply Kd.V_drew)); exact HO0_5.out) (Kd.N_base ho0) hb)
          have n1_ := Aside0.mk (Kd.V_elder' (by (with_reducible repeat (first | apply Kd.V_alloc | apply Kd.V_drewN | apply Kd.V_drew)); exact HL102_5.out) (Kd.N_base ho0) hb)
          have n2_ := Aside0.mk (Kd.V_elder' (by (with_reducible repeat (first | apply Kd.V_alloc | apply Kd.V_drewN | apply Kd.V_drew)); exact HL106_5.out) (Kd.N_base ho0) hb)
          have n3_ := Aside0.mk (Kd.N_lower (Kd.N_mono (ok' := fun k_ => (P0_5_ k_ ∨ w.heap.size ≤ k_) ∧ k_ ≠ gb101) ho0 (fun k_ hk_ => ⟨Or.elim hk_ (fun hs_ => hs_.1) (fun hn_ => (.inr (Nat.le_trans (below_size (by repeat (first | (with_reducible first | exact HB.out | apply below_alloc | apply pw_below_drewN | apply below_drew1 | refine below_set ?_ GE101.out) | exact HB.out))) hn_))), Or.elim hk_ (fun hs_ => hs_.2) (fun hn_ => (Kd.freshB (g := gb101) (o := .cells #[.int .i64 a0_0, .int .i64 a0_1, .int .i64 a0_2, .int .i64 a0_3, .string a0_4, .slice (some ad102) l0_5.length c0_5] 38 (0, 0)) (by (with_reducible repeat (first | refine blk_drewN ?_ _ | refine blk_drew ?_ | refine blk_alloc ?_ _)); exact BK101.out) k_ hn_))⟩)) (below_size (by repeat (first | (with_reducible first | exact HB.out | apply below_alloc | apply pw_below_drewN | apply below_drew1 | refine below_set ?_ GE101.out) | exact HB.out))))
          have n4_ := Aside0.mk (blk_below (g := gb101) (o := .cells #[.int .i64 a0_0, .int .i64 a0_1, .int .i64 a0_2, .int .i64 a0_3, .string a0_4, .slice (some ad102) l0_5.length c0_5] 38 (0, 0)) (by (with_reducible repeat (first | refine blk_drewN ?_ _ | refine blk_drew ?_ | refine blk_alloc ?_ _)); exact BK101.out) hb)
          have n5_ := Aside0.mk (Kd.C_below (by repeat (first | (with_reducible exact HR102_5.out) | (with_reducible refine Kd.C_alloc ?_ _) | (with_reducible refine Kd.C_drewN ?_ _) | (with_reducible refine Kd.C_drew ?_) | exact HR102_5.out)) hb)
          have n6_ := Aside0.mk (Kd.C_below (by repeat (first | (with_reducible exact HR106_5.out) | (with_reducible refine Kd.C_alloc ?_ _) | (with_reducible refine Kd.C_drewN ?_ _) | (with_reducible refine Kd.C_drew ?_) | exact HR106_5.out)) hb)
          have n7_ := Aside0.mk (below_step (by repeat (first | (with_reducible first | exact HB.out | apply below_alloc | apply pw_below_drewN | apply below_drew1 | refine below_set ?_ GE101.out) | exact HB.out)) hb)
          clear HO0_5
          clear HL102_5
          clear HL106_5
          clear BK101
          clear HR102_5
          clear HR106_5
          clear HB
          have HO0_5 := n0_
          have HL102_5 := n1_
          have HL106_5 := n2_
          have HO105 := n3_
          have BK101 := n4_
          have HR102_5 := n5_
          have HR106_5 := n6_
          have HB := n7_
          clear n0_ n1_ n2_ n3_ n4_ n5_ n6_ n7_
          (try clear hb)
          (try clear hb2)
          (try clear hk)
          (try clear hi)
          (try clear ho0)
          refine hK.out _ _ ⟨(blk_cell BK101.out 0).trans rfl, (blk_cell BK101.out 1).trans rfl, (blk_cell BK101.out 2).trans rfl, (blk_cell BK101.out 3).trans rfl, (blk_cell BK101.out 4).trans rfl, (blk_cell BK101.out 5).trans rfl, HS6_, HS7_, HS8_, HS9_, HS10_, HS11_, HS12_, HS13_, HS14_, HS15_, HS16_, HS17_⟩ (fun hHeld => ?_)
          clear hK K
          refine norm_ (a' := ?_) ?_ ?_
          rotate_left
          · show Act.put _ (some 12) _ = _
            simp only [Act.put, List.setIfInBounds_toArray, List.set_cons_zero, List.set_cons_succ, i64_w, i32_w]
            rfl
          refine one_ (i := 9) (N := some 17) #[true, true, true, true, true, true, true, true, true, true, false, false] rfl rfl (one_of HT_.out (by kernel_rfl)) (by decide) (fun K hK => ?_)
          refine goes_ Tryz.func99 (by kernel_rfl) rfl #[.agg #[.int .i64 ((rd_T38 l0_5 1).f0), .int .i64 ((rd_T38 l0_5 1).f1), .int .i64 ((rd_T38 l0_5 1).f2.f0), .int .i64 ((rd_T38 l0_5 1).f2.f1), .string ((rd_T38 l0_5 1).f2.f2), .slice A106_5 ((rd_T38 l0_5 1).f3).length c106_5]] (by rfl) rfl rfl (by (try simp only [List.map_toArray, List.map_cons, List.map_nil]); first | done | rfl | (simp only [List.length_drop, List.length_take]; rfl)) ?_
          with_reducible refine (ih k (by omega) ((rd_T38 l0_5 1).f0) ((rd_T38 l0_5 1).f1) ((rd_T38 l0_5 1).f2.f0) ((rd_T38 l0_5 1).f2.f1) ((rd_T38 l0_5 1).f2.f2) (fun k_ => (((P0_5_ k_ ∨ w.heap.size ≤ k_) ∧ k_ ≠ gb101) ∧ some k_ ≠ (v104 : Value).ownBlock)) _ _ ((rd_T38 l0_5 1).f3) t107 _ ?side1 A6.out).mono ?_
          (case side1 => exact HL106_5.out)
          rintro e w12 ⟨v108, rfl, ho0, hb⟩
          have HS6_ := (hb.cell (World.block_lt_of_cell? _ _ (hHeld.2.2.2.2.2.2.1))).trans (hHeld.2.2.2.2.2.2.1)
          have HS7_ := (hb.cell (World.block_lt_of_cell? _ _ (hHeld.2.2.2.2.2.2.2.1))).trans (hHeld.2.2.2.2.2.2.2.1)
          have HS8_ := (hb.cell (World.block_lt_of_cell? _ _ (hHeld.2.2.2.2.2.2.2.2.1))).trans (hHeld.2.2.2.2.2.2.2.2.1)
          have HS9_ := (hb.cell (World.block_lt_of_cell? _ _ (hHeld.2.2.2.2.2.2.2.2.2.1))).trans (hHeld.2.2.2.2.2.2.2.2.2.1)
          have HS10_ := (hb.cell (World.block_lt_of_cell? _ _ (hHeld.2.2.2.2.2.2.2.2.2.2.1))).trans (hHeld.2.2.2.2.2.2.2.2.2.2.1)
          have HS11_ := (hb.cell (World.block_lt_of_cell? _ _ (hHeld.2.2.2.2.2.2.2.2.2.2.2.1))).trans (hHeld.2.2.2.2.2.2.2.2.2.2.2.1)
          have HS12_ := (hb.cell (World.block_lt_of_cell? _ _ (hHeld.2.2.2.2.2.2.2.2.2.2.2.2.1))).trans (hHeld.2.2.2.2.2.2.2.2.2.2.2.2.1)
          have HS13_ := (hb.cell (World.block_lt_of_cell? _ _ (hHeld.2.2.2.2.2.2.2.2.2.2.2.2.2.1))).trans (hHeld.2.2.2.2.2.2.2.2.2.2.2.2.2.1)
          have HS14_ := (hb.cell (World.block_lt_of_cell? _ _ (hHeld.2.2.2.2.2.2.2.2.2.2.2.2.2.2.1))).trans (hHeld.2.2.2.2.2.2.2.2.2.2.2.2.2.2.1)
          have HS15_ := (hb.cell (World.block_lt_of_cell? _ _ (hHeld.2.2.2.2.2.2.2.2.2.2.2.2.2.2.2.1))).trans (hHeld.2.2.2.2.2.2.2.2.2.2.2.2.2.2.2.1)
          have HS16_ := (hb.cell (World.block_lt_of_cell? _ _ (hHeld.2.2.2.2.2.2.2.2.2.2.2.2.2.2.2.2.1))).trans (hHeld.2.2.2.2.2.2.2.2.2.2.2.2.2.2.2.2.1)
          have HS17_ := (hb.cell (World.block_lt_of_cell? _ _ (hHeld.2.2.2.2.2.2.2.2.2.2.2.2.2.2.2.2.2))).trans (hHeld.2.2.2.2.2.2.2.2.2.2.2.2.2.2.2.2.2)
          refine ⟨_, rfl, ?_⟩
          have n0_ := Aside0.mk (Kd.V_elder' (by (with_reducible repeat (first | apply Kd.V_alloc | apply Kd.V_drewN | apply Kd.V_drew)); exact HO0_5.out) (Kd.N_base ho0) hb)
          have n1_ := Aside0.mk (Kd.V_elder' (by (with_reducible repeat (first | apply Kd.V_alloc | apply Kd.V_drewN | apply Kd.V_drew)); exact HL102_5.out) (Kd.N_base ho0) hb)
          have n2_ := Aside0.mk (Kd.V_elder' (by (with_reducible repeat (first | apply Kd.V_alloc | apply Kd.V_drewN | apply Kd.V_drew)); exact HL106_5.out) (Kd.N_base ho0) hb)
          have n3_ := Aside0.mk (Kd.N_elder' (by (with_reducible repeat (first | apply Kd.N_alloc | apply Kd.N_drewN | apply Kd.N_drew)); exact HO105.out) (Kd.N_base ho0) hb)
          have n4_ := Aside0.mk (Kd.N_lower (Kd.N_mono (ok' := fun k_ => (P0_5_ k_ ∨ w.heap.size ≤ k_) ∧ some k_ ≠ (v104 : Value).ownBlock ∧ k_ ≠ gb101) ho0 (fun k_ hk_ => ⟨Or.elim hk_ (fun hs_ => hs_.1.1) (fun hn_ => (.inr (Nat.le_trans (below_size (by repeat (first | (with_reducible first | exact HB.out | apply below_alloc | apply pw_below_drewN | apply below_drew1 | refine below_set ?_ GE101.out) | exact HB.out))) hn_))), Or.elim hk_ (fun hs_ => hs_.2) (fun hn_ => (Kd.fresh' (Kd.N_lt (by (with_reducible repeat (first | apply Kd.N_alloc | apply Kd.N_drewN | apply Kd.N_drew)); exact HO105.out)) k_ hn_)), Or.elim hk_ (fun hs_ => hs_.1.2) (fun hn_ => (Kd.freshB (g := gb101) (o := .cells #[.int .i64 a0_0, .int .i64 a0_1, .int .i64 a0_2, .int .i64 a0_3, .string a0_4, .slice (some ad102) l0_5.length c0_5] 38 (0, 0)) (by (with_reducible repeat (first | refine blk_drewN ?_ _ | refine blk_drew ?_ | refine blk_alloc ?_ _)); exact BK101.out) k_ hn_))⟩)) (below_size (by repeat (first | (with_reducible first | exact HB.out | apply below_alloc | apply pw_below_drewN | apply below_drew1 | refine below_set ?_ GE101.out) | exact HB.out))))
          have n5_ := Aside0.mk (blk_below (g := gb101) (o := .cells #[.int .i64 a0_0, .int .i64 a0_1, .int .i64 a0_2, .int .i64 a0_3, .string a0_4, .slice (some ad102) l0_5.length c0_5] 38 (0, 0)) (by (with_reducible repeat (first | refine blk_drewN ?_ _ | refine blk_drew ?_ | refine blk_alloc ?_ _)); exact BK101.out) hb)
          have n6_ := Aside0.mk (Kd.C_below (by repeat (first | (with_reducible exact HR102_5.out) | (with_reducible refine Kd.C_alloc ?_ _) | (with_reducible refine Kd.C_drewN ?_ _) | (with_reducible refine Kd.C_drew ?_) | exact HR102_5.out)) hb)
          have n7_ := Aside0.mk (Kd.C_below (by repeat (first | (with_reducible exact HR106_5.out) | (with_reducible refine Kd.C_alloc ?_ _) | (with_reducible refine Kd.C_drewN ?_ _) | (with_reducible refine Kd.C_drew ?_) | exact HR106_5.out)) hb)
          have n8_ := Aside0.mk (below_step (by repeat (first | (with_reducible first | exact HB.out | apply below_alloc | apply pw_below_drewN | apply below_drew1 | refine below_set ?_ GE101.out) | exact HB.out)) hb)
          clear HO0_5
          clear HL102_5
          clear HL106_5
          clear HO105
          clear BK101
          clear HR102_5
          clear HR106_5
          clear HB
          have HO0_5 := n0_
          have HL102_5 := n1_
          have HL106_5 := n2_
          have HO105 := n3_
          have HO109 := n4_
          have BK101 := n5_
          have HR102_5 := n6_
          have HR106_5 := n7_
          have HB := n8_
          clear n0_ n1_ n2_ n3_ n4_ n5_ n6_ n7_ n8_
          (try clear hb)
          (try clear hb2)
          (try clear hk)
          (try clear hi)
          (try clear ho0)
          obtain ⟨Ao14, co14, eo14⟩ := Kd.N_slice HO109.out
          (first | subst eo14 | (injection eo14 with f1_ f2_ f3_; have f4_ := f1_.symm; have f5_ := f3_.symm; clear f1_ f2_ f3_; subst f4_; subst f5_))
          refine hK.out _ _ ⟨(blk_cell BK101.out 0).trans rfl, (blk_cell BK101.out 1).trans rfl, (blk_cell BK101.out 2).trans rfl, (blk_cell BK101.out 3).trans rfl, (blk_cell BK101.out 4).trans rfl, (blk_cell BK101.out 5).trans rfl, HS6_, HS7_, HS8_, HS9_, HS10_, HS11_, HS12_, HS13_, HS14_, HS15_, HS16_, HS17_⟩ (fun hHeld => ?_)
          clear hK K
          refine norm_ (a' := ?_) ?_ ?_
          rotate_left
          · show Act.put _ (some 17) _ = _
            simp only [Act.put, List.setIfInBounds_toArray, List.set_cons_zero, List.set_cons_succ, i64_w, i32_w]
            rfl
          refine last_ (i := 10) (N := some 18) #[true, true, true, true, true, true, true, true, true, true, true, false] rfl rfl (one_of HT_.out (by kernel_rfl)) (by decide) (fun K hK => ?_)
          refine Kd.N_append_rows_step k38 (w0 := w) w.heap.size (by rfl) (.tmp 12) (.tmp 17) 36 38 (.agg #[(.int .i64 0), (.int .i64 0), (.int .i64 0), (.int .i64 0), (.string ⟨#[]⟩), (.slice none 0 0)]) 72 rfl Tryz.underlying36 info38 rfl (by decide) (by omega) v104 t103 t107 _ _ _ (fun k_ => (P0_5_ k_ ∨ w.heap.size ≤ k_) ∧ k_ ≠ gb101) (fun k_ => ((fun k_ => (P0_5_ k_ ∨ w.heap.size ≤ k_) ∧ k_ ≠ gb101)) k_ ∧ some k_ ≠ (v104 : Value).ownBlock) rfl rfl ?aO ?aR (fun _ hk => hk) ?aF ?aB ?aS ?aL ?_
          (case aR => exact (by skip; exact Kd.N_F (Kd.N_mono (ok' := (fun k_ => ((fun k_ => (P0_5_ k_ ∨ w.heap.size ≤ k_) ∧ k_ ≠ gb101)) k_ ∧ some k_ ≠ (v104 : Value).ownBlock)) (HO109.out) (fun k_ hk => ⟨⟨hk.1, hk.2.2⟩, hk.2.1⟩))))
          (case aB => exact (by repeat (first | (with_reducible first | exact HB.out | apply below_alloc | apply pw_below_drewN | apply below_drew1 | refine below_set ?_ GE101.out) | exact HB.out)))
          (case aF => exact (fun k_ hk => ⟨(.inr (Nat.le_trans (below_size (by repeat (first | (with_reducible first | exact HB.out | apply below_alloc | apply pw_below_drewN | apply below_drew1 | refine below_set ?_ GE101.out) | exact HB.out))) hk)), Kd.freshB (g := gb101) (o := .cells #[.int .i64 a0_0, .int .i64 a0_1, .int .i64 a0_2, .int .i64 a0_3, .string a0_4, .slice (some ad102) l0_5.length c0_5] 38 (0, 0)) (by (with_reducible repeat (first | refine blk_drewN ?_ _ | refine blk_drew ?_ | refine blk_alloc ?_ _)); exact BK101.out) k_ hk⟩))
          (case aO => exact (by (with_reducible repeat (first | apply Kd.N_alloc | apply Kd.N_drewN | apply Kd.N_drew)); exact Kd.N_mono HO105.out (fun _ hk => ⟨hk.1.1, hk.1.2⟩)))
          (case aS => exact (below_size (by repeat (first | (with_reducible first | exact HB.out | apply below_alloc | apply pw_below_drewN | apply below_drew1 | refine below_set ?_ GE101.out) | exact HB.out))))
          (case aL => have := LMc7.out; omega)
          intro v111 w13 ho hb hg hat
          rw [← Ny110.out] at ho
          have n0_ := Aside0.mk (Kd.V_afterv (ok := (fun k_ => (P0_5_ k_ ∨ w.heap.size ≤ k_) ∧ some k_ ≠ (.slice Ao14 t107.length co14 : Value).ownBlock ∧ k_ ≠ gb101)) (by (with_reducible repeat (first | apply Kd.V_alloc | apply Kd.V_drewN | apply Kd.V_drew)); exact Kd.V_mono HO0_5.out (fun _ hk => ⟨⟨hk.1.1.1, ⟨hk.2, hk.1.1.2⟩⟩, hk.1.2⟩)) hg hat)
          have n1_ := Aside0.mk (blk_grown (g := gb101) (o := .cells #[.int .i64 a0_0, .int .i64 a0_1, .int .i64 a0_2, .int .i64 a0_3, .string a0_4, .slice (some ad102) l0_5.length c0_5] 38 (0, 0)) (by (with_reducible repeat (first | refine blk_drewN ?_ _ | refine blk_drew ?_ | refine blk_alloc ?_ _)); exact BK101.out) hg (Kd.N_away HO105.out (fun _ hk => hk.1.2)))
          have n2_ := Aside0.mk (Kd.V_afterv (ok := (fun k_ => (P0_5_ k_ ∨ w.heap.size ≤ k_) ∧ some k_ ≠ (.slice Ao14 t107.length co14 : Value).ownBlock ∧ k_ ≠ gb101)) (by (with_reducible repeat (first | apply Kd.V_alloc | apply Kd.V_drewN | apply Kd.V_drew)); exact Kd.V_mono HL102_5.out (fun _ hk => ⟨⟨hk.1.1.1, ⟨hk.2, hk.1.1.2⟩⟩, hk.1.2⟩)) hg hat)
          have n3_ := Aside0.mk (Kd.V_afterv (ok := (fun k_ => (P0_5_ k_ ∨ w.heap.size ≤ k_) ∧ some k_ ≠ (.slice Ao14 t107.length co14 : Value).ownBlock ∧ k_ ≠ gb101)) (by (with_reducible repeat (first | apply Kd.V_alloc | apply Kd.V_drewN | apply Kd.V_drew)); exact Kd.V_mono HL106_5.out (fun _ hk => ⟨⟨hk.1.1.1, ⟨hk.2, hk.1.1.2⟩⟩, hk.1.2⟩)) hg hat)
          have n4_ := Aside0.mk (Kd.N_afterv (ok := (fun k_ => (P0_5_ k_ ∨ w.heap.size ≤ k_) ∧ k_ ≠ gb101)) (by (with_reducible repeat (first | apply Kd.N_alloc | apply Kd.N_drewN | apply Kd.N_drew)); exact Kd.N_mono HO109.out (fun _ hk => ⟨⟨hk.1, hk.2.2⟩, hk.2.1⟩)) hg hat)
          have n5_ := Aside0.mk (hb)
          have n6_ := Aside0.mk (ho)
          clear HO0_5
          clear BK101
          clear HL102_5
          clear HL106_5
          clear HO109
          clear HB
          clear HO105
          have HO0_5 := n0_
          have BK101 := n1_
          have HL102_5 := n2_
          have HL106_5 := n3_
          have HO109 := n4_
          have HB := n5_
          have HO112 := n6_
          clear n0_ n1_ n2_ n3_ n4_ n5_ n6_
          clear ho hb hg hat
          refine hK.out _ _ ?_
          clear hK K
          refine norm_ (a' := ?_) ?_ ?_
          rotate_left
          · show Act.put _ (some 18) _ = _
            simp only [Act.put, List.setIfInBounds_toArray, List.set_cons_zero, List.set_cons_succ, i64_w, i32_w]
            rfl
          refine pure_ (i := 11) (N := some 2) (v := ?_) (a' := ?_) #[true, true, true, true, true, true, true, true, true, true, true, true] rfl rfl (any_of HT_.out (by kernel_rfl)) (fun _ _ _ h => h) (Or.inl ⟨by rfl, ?_⟩) ?_ ?_
          rotate_left
          · intro w'
            go_simp
            with_reducible rfl
          rotate_left
          · simp only [Act.put, List.setIfInBounds_toArray, List.set_cons_zero, List.set_cons_succ, i64_w, i32_w]
            rfl
          refine done_ (done_of HT_.out (by kernel_rfl)) ?_
          try go_wp2
          go_ret
          exact ⟨_, by first | rfl | (simp [errW_none, errW_some] <;> rfl) | (simp [*, errW_none, errW_some] <;> rfl), by (with_reducible repeat (first | apply Kd.N_alloc | apply Kd.N_drewN | apply Kd.N_drew)); exact Kd.N_mono HO112.out (fun _ hk => hk.1), by repeat (first | (with_reducible first | exact HB.out | apply below_alloc | apply pw_below_drewN | apply below_drew1 | refine below_set ?_ GE101.out) | exact HB.out)⟩
        · rw [if_neg c7] at H
          exact absurd H (by simp)
      · rw [if_neg c5] at H
        exact absurd H (by simp)
    · rw [if_neg c3] at H
      exact absurd H (by simp)
  · rw [if_neg c2] at H
    have c2b0 : (a0_0 == 6) = false := beq_eq_false_iff_ne.mpr c2
    have c2b1 : (a0_0 != 6) = true := bne_iff_ne.mpr c2
    obtain ⟨y113, hy113⟩ : ∃ y_ : List (S38), y_ = (([(⟨a0_0, a0_1, (⟨a0_2, a0_3, a0_4⟩ : S35), l0_5⟩ : S38)] : List (S38))) := ⟨_, rfl⟩
    replace H : (some y113) = some r := by first | (rw [hy113]; with_reducible exact H) | (have H2_ := (Option.bind_some _ _).symm.trans H; rw [hy113]; with_reducible exact H2_) | (have H2_ := (Option.bind_some _ _).symm.trans H; with_reducible exact H2_) | with_reducible exact H | (rw [hy113]; exact H) | exact H
    have Ny113 := Aside0.mk hy113
    clear hy113
    obtain rfl := Option.some.inj H
    go_enter Tryz.func99, Tryz.ntmps99
    go_wp2_with (first | ((with_reducible refine gate_dst (N := 1) rfl ?_); refine box_event ?hg (N := 1) ?hd (cs := #[.int .i64 a0_0, .int .i64 a0_1, .int .i64 a0_2, .int .i64 a0_3, .string a0_4, .slice A0_5 l0_5.length c0_5]) (t := 38) ?hr ?_; (case hd => rfl); (case hg => rfl); (case hr => first | (go_simp; done) | (go_simp; rfl)); intro gb101 hg w15 hbox hb; have n0_ := Aside0.mk (Kd.V_below (Kd.V_elderB (by (with_reducible repeat (first | apply Kd.V_alloc | apply Kd.V_drewN | apply Kd.V_drew)); exact HO0_5.out) gb101 (Nat.le_of_eq hg.symm)) hb); have n1_ := Aside0.mk (below_step (by repeat (first | (with_reducible first | exact HB.out | apply below_alloc | apply pw_below_drewN | apply below_drew1) | exact HB.out)) hb); have n2_ := Aside0.mk (hbox); have n3_ := Aside0.mk ((by rw [hg]; exact (below_size (by repeat (first | (with_reducible first | exact HB.out | apply below_alloc | apply pw_below_drewN | apply below_drew1) | exact HB.out))) : w.heap.size ≤ gb101)); have n4_ := Aside0.mk ((by rw [hg]; exact (below_size (by repeat (first | (with_reducible first | exact HB.out | apply below_alloc | apply pw_below_drewN | apply below_drew1) | exact HB.out))) : w.heap.size ≤ gb101)); clear HO0_5; clear HB; have HO0_5 := n0_; have HB := n1_; have BK101 := n2_; have GW101 := n3_; have GE101 := n4_; clear n0_ n1_ n2_ n3_ n4_; clear hb hbox hg; have hcz16_0 : w15.cell? ⟨gb101, 0, none⟩ = some (.int .i64 a0_0) := (blk_cell BK101.out 0).trans rfl; have hcz16_1 : w15.cell? ⟨gb101, 1, none⟩ = some (.int .i64 a0_1) := (blk_cell BK101.out 1).trans rfl; have hcz16_2 : w15.cell? ⟨gb101, 2, none⟩ = some (.int .i64 a0_2) := (blk_cell BK101.out 2).trans rfl; have hcz16_3 : w15.cell? ⟨gb101, 3, none⟩ = some (.int .i64 a0_3) := (blk_cell BK101.out 3).trans rfl; have hcz16_4 : w15.cell? ⟨gb101, 4, none⟩ = some (.string a0_4) := (blk_cell BK101.out 4).trans rfl; have hcz16_5 : w15.cell? ⟨gb101, 5, none⟩ = some (.slice A0_5 l0_5.length c0_5) := (blk_cell BK101.out 5).trans rfl; have hfz16_0 := blk_frozen BK101.out 0; have hfz16_1 := blk_frozen BK101.out 1; have hfz16_2 := blk_frozen BK101.out 2; have hfz16_3 := blk_frozen BK101.out 3; have hfz16_4 := blk_frozen BK101.out 4; have hfz16_5 := blk_frozen BK101.out 5) | ((with_reducible refine gate_dst (N := 7) rfl ?_); refine Kd.N_lit k38 _ 38 ?hg (N' := 7) ?hd (xs := ([(⟨a0_0, a0_1, (⟨a0_2, a0_3, a0_4⟩ : S35), l0_5⟩ : S38)] : List (S38))) (inner := [.int .i64 a0_0, .int .i64 a0_1, .int .i64 a0_2, .int .i64 a0_3, .string a0_4, .slice A0_5 l0_5.length c0_5]) (ok := (fun k_ => (P0_5_ k_ ∨ w.heap.size ≤ k_) ∧ k_ ≠ gb101)) (okp := (fun k_ => (P0_5_ k_ ∨ w.heap.size ≤ k_) ∧ k_ ≠ gb101)) ?hr ?hp (fun _ hk => hk) ((show ∀ k_, w15.heap.size ≤ k_ → (fun k_ => (P0_5_ k_ ∨ w.heap.size ≤ k_) ∧ k_ ≠ gb101) k_ from fun k_ hk => ⟨(.inr (Nat.le_trans (below_size (by repeat (first | (with_reducible first | exact HB.out | apply below_alloc | apply pw_below_drewN | apply below_drew1 | refine below_set ?_ GE101.out) | exact HB.out))) hk)), Kd.freshB (g := gb101) (o := .cells #[.int .i64 a0_0, .int .i64 a0_1, .int .i64 a0_2, .int .i64 a0_3, .string a0_4, .slice A0_5 l0_5.length c0_5] 38 (0, 0)) (by (with_reducible repeat (first | refine blk_drewN ?_ _ | refine blk_drew ?_ | refine blk_alloc ?_ _)); exact BK101.out) k_ hk⟩) _ (Nat.le_refl _)) (Below.refl _ _) (Nat.le_refl _) (by simp) ?_; (case hd => rfl); (case hg => rfl); (case hr => first | (go_simp; done) | (go_simp; rfl)); (case hp => exact (Reps.c6 (show Kd.FK k38 _ _ (⟨a0_0, a0_1, (⟨a0_2, a0_3, a0_4⟩ : S35), l0_5⟩ : S38) [.int .i64 a0_0, .int .i64 a0_1, .int .i64 a0_2, .int .i64 a0_3, .string a0_4, .slice A0_5 l0_5.length c0_5] from (k38_mkF _ _ (⟨a0_0, a0_1, (⟨a0_2, a0_3, a0_4⟩ : S35), l0_5⟩ : S38) (Kd.V_reads' (Kd.V_mono (ok' := (fun k_ => (P0_5_ k_ ∨ w.heap.size ≤ k_) ∧ k_ ≠ gb101)) (HO0_5.out) (fun k_ hk => ⟨hk.1, hk.2⟩))).2.1 (Kd.V_F (Kd.V_mono (ok' := (fun k_ => (P0_5_ k_ ∨ w.heap.size ≤ k_) ∧ k_ ≠ gb101)) (HO0_5.out) (fun k_ hk => ⟨hk.1, hk.2⟩))))) (Reps.none _ _))); intro v114 w17 ho18 hb hg_ hnew_; clear hg_ hnew_; (first | rw [← Ny113.out] at ho18 | (simp only [Int.reduceToNat] at ho18; rw [← Ny113.out] at ho18)); have n0_ := Aside0.mk (Kd.V_elder' (by (with_reducible repeat (first | apply Kd.V_alloc | apply Kd.V_drewN | apply Kd.V_drew)); exact HO0_5.out) (Kd.N_base ho18) hb); have n1_ := Aside0.mk (Kd.N_lower ho18 (below_size (by repeat (first | (with_reducible first | exact HB.out | apply below_alloc | apply pw_below_drewN | apply below_drew1 | refine below_set ?_ GE101.out) | exact HB.out)))); have n2_ := Aside0.mk (blk_below (g := gb101) (o := .cells #[.int .i64 a0_0, .int .i64 a0_1, .int .i64 a0_2, .int .i64 a0_3, .string a0_4, .slice A0_5 l0_5.length c0_5] 38 (0, 0)) (by (with_reducible repeat (first | refine blk_drewN ?_ _ | refine blk_drew ?_ | refine blk_alloc ?_ _)); exact BK101.out) hb); have n3_ := Aside0.mk (below_step (by repeat (first | (with_reducible first | exact HB.out | apply below_alloc | apply pw_below_drewN | apply below_drew1 | refine below_set ?_ GE101.out) | exact HB.out)) hb); clear HO0_5; clear BK101; clear HB; have HO0_5 := n0_; have HO115 := n1_; have BK101 := n2_; have HB := n3_; clear n0_ n1_ n2_ n3_; clear hb ho18))
    go_ret
    exact ⟨_, by first | rfl | (simp [errW_none, errW_some] <;> rfl) | (simp [*, errW_none, errW_some] <;> rfl), by (with_reducible repeat (first | apply Kd.N_alloc | apply Kd.N_drewN | apply Kd.N_drew)); exact Kd.N_mono HO115.out (fun _ hk => hk.1), by repeat (first | (with_reducible first | exact HB.out | apply below_alloc | apply pw_below_drewN | apply below_drew1 | refine below_set ?_ GE101.out) | exact HB.out)⟩
end Go.Proofs.YteflfnjljjianaaGreatDoor.Qx
namespace Go.Proofs.YteflfnjljjianaaGreatDoor.Qx
open Go.RowKit Go.Proofs.YteflfnjljjianaaGreatDoorW.PrintWords Go.Proofs.YteflfnjljjianaaGreatDoorW.PrintLast Go.Proofs.YteflfnjljjianaaGreatDoorW.PrintMore
attribute [local go_sem] max2_int min2_int max_two min_two
set_option linter.unusedVariables false
set_option linter.unusedSimpArgs false
abbrev bounds_logic.E : Array MapEntry := #[⟨.int .i64 6, .func (.func 181) #[] #[], 0⟩, ⟨.int .i64 7, .func (.func 182) #[] #[], 1⟩, ⟨.int .i64 8, .func (.func 183) #[] #[], 2⟩, ⟨.int .i64 9, .func (.func 184) #[] #[], 3⟩]
def bounds_logic.Post (w : World) (e : Ending) (w' : World) : Prop := ∃ g, e = .returned (.map (some g)) ∧ w'.heap[g]? = some (.map bounds_logic.E 4) ∧ w.heap.size ≤ g ∧ Below w.heap.size w w'
set_option maxHeartbeats 4000000 in
set_option maxRecDepth 100000 in
theorem bounds_logic.made (w : World) : Calls Tryz.prog 155 #[] w (bounds_logic.Post w) := by
  have hu := Tryz.underlying198
  have hu3 := Tryz.underlying3
  have hmm := @run_makeMap Tryz.prog
  have q0 : (Instr.mapUpdate 198 (.map (some w.heap.size)) (.int .i64 6) (.func (.func 181) #[] #[])).run Tryz.prog (w.alloc (.map #[] 0)) = .ok () (w.alloc (.map #[⟨.int .i64 6, .func (.func 181) #[] #[], 0⟩] 1)) := by
    rw [mapPut (.int .i64) Tryz.underlying198 Tryz.underlying3 (.inr ⟨_, rfl⟩) _ _ _ _ _ _ (heap_alloc_new w _) rfl]
    rw [alloc_setObj]; rfl
  have q1 : (Instr.mapUpdate 198 (.map (some w.heap.size)) (.int .i64 7) (.func (.func 182) #[] #[])).run Tryz.prog (w.alloc (.map #[⟨.int .i64 6, .func (.func 181) #[] #[], 0⟩] 1)) = .ok () (w.alloc (.map #[⟨.int .i64 6, .func (.func 181) #[] #[], 0⟩, ⟨.int .i64 7, .func (.func 182) #[] #[], 1⟩] 2)) := by
    rw [mapPut (.int .i64) Tryz.underlying198 Tryz.underlying3 (.inr ⟨_, rfl⟩) _ _ _ _ _ _ (heap_alloc_new w _) rfl]
    rw [alloc_setObj]; rfl
  have q2 : (Instr.mapUpdate 198 (.map (some w.heap.size)) (.int .i64 8) (.func (.func 183) #[] #[])).run Tryz.prog (w.alloc (.map #[⟨.int .i64 6, .func (.func 181) #[] #[], 0⟩, ⟨.int .i64 7, .func (.func 182) #[] #[], 1⟩] 2)) = .ok () (w.alloc (.map #[⟨.int .i64 6, .func (.func 181) #[] #[], 0⟩, ⟨.int .i64 7, .func (.func 182) #[] #[], 1⟩, ⟨.int .i64 8, .func (.func 183) #[] #[], 2⟩] 3)) := by
    rw [mapPut (.int .i64) Tryz.underlying198 Tryz.underlying3 (.inr ⟨_, rfl⟩) _ _ _ _ _ _ (heap_alloc_new w _) rfl]
    rw [alloc_setObj]; rfl
  have q3 : (Instr.mapUpdate 198 (.map (some w.heap.size)) (.int .i64 9) (.func (.func 184) #[] #[])).run Tryz.prog (w.alloc (.map #[⟨.int .i64 6, .func (.func 181) #[] #[], 0⟩, ⟨.int .i64 7, .func (.func 182) #[] #[], 1⟩, ⟨.int .i64 8, .func (.func 183) #[] #[], 2⟩] 3)) = .ok () (w.alloc (.map #[⟨.int .i64 6, .func (.func 181) #[] #[], 0⟩, ⟨.int .i64 7, .func (.func 182) #[] #[], 1⟩, ⟨.int .i64 8, .func (.func 183) #[] #[], 2⟩, ⟨.int .i64 9, .func (.func 184) #[] #[], 3⟩] 4)) := by
    rw [mapPut (.int .i64) Tryz.underlying198 Tryz.underlying3 (.inr ⟨_, rfl⟩) _ _ _ _ _ _ (heap_alloc_new w _) rfl]
    rw [alloc_setObj]; rfl
  go_enter Tryz.func155, Tryz.ntmps155
  go_wp2
  go_ret
  exact ⟨_, rfl, heap_alloc_new w _, Nat.le_refl _, (Below.refl _ w).alloc (Nat.le_refl _) _⟩
theorem bounds_logic.miss (g : Nat) (n : Int) (h : n < 6 ∨ 9 < n) : ∀ W : World, W.heap[g]? = some (.map bounds_logic.E 4) → (Instr.lookup 198 (.map (some g)) (.int .i64 n) true).run Tryz.prog W = .ok (.tuple #[.nilFunc, .bool false]) W := fun W hg =>
  mapMissOk (.int .i64) Tryz.underlying198 Tryz.underlying3 (.inr ⟨_, rfl⟩) W g _ _ _ _ Tryz.zeroValue196 hg (by
    have h6 : (n == 6) = false := by simp; omega
    have h7 : (n == 7) = false := by simp; omega
    have h8 : (n == 8) = false := by simp; omega
    have h9 : (n == 9) = false := by simp; omega
    simp [Instr.findNow, Instr.sameNow, h6, h7, h8, h9])
end Go.Proofs.YteflfnjljjianaaGreatDoor.Qx
namespace Go.Proofs.YteflfnjljjianaaGreatDoor.Qx
open Go.RowKit Go.Proofs.YteflfnjljjianaaGreatDoorW.PrintWords Go.Proofs.YteflfnjljjianaaGreatDoorW.PrintLast Go.Proofs.YteflfnjljjianaaGreatDoorW.PrintMore
attribute [local go_sem] max2_int min2_int max_two min_two
set_option linter.unusedVariables false
set_option linter.unusedSimpArgs false
abbrev bounds_strict.E : Array MapEntry := #[⟨.int .i64 3, .func (.func 185) #[] #[], 0⟩, ⟨.int .i64 4, .func (.func 186) #[] #[], 1⟩, ⟨.int .i64 5, .func (.func 187) #[] #[], 2⟩, ⟨.int .i64 12, .func (.func 188) #[] #[], 3⟩, ⟨.int .i64 10, .func (.func 189) #[] #[], 4⟩, ⟨.int .i64 11, .func (.func 190) #[] #[], 5⟩]
def bounds_strict.Post (w : World) (e : Ending) (w' : World) : Prop := ∃ g, e = .returned (.map (some g)) ∧ w'.heap[g]? = some (.map bounds_strict.E 6) ∧ w.heap.size ≤ g ∧ Below w.heap.size w w'
set_option maxHeartbeats 4000000 in
set_option maxRecDepth 100000 in
theorem bounds_strict.made (w : World) : Calls Tryz.prog 156 #[] w (bounds_strict.Post w) := by
  have hu := Tryz.underlying198
  have hu3 := Tryz.underlying3
  have hmm := @run_makeMap Tryz.prog
  have q0 : (Instr.mapUpdate 198 (.map (some w.heap.size)) (.int .i64 3) (.func (.func 185) #[] #[])).run Tryz.prog (w.alloc (.map #[] 0)) = .ok () (w.alloc (.map #[⟨.int .i64 3, .func (.func 185) #[] #[], 0⟩] 1)) := by
    rw [mapPut (.int .i64) Tryz.underlying198 Tryz.underlying3 (.inr ⟨_, rfl⟩) _ _ _ _ _ _ (heap_alloc_new w _) rfl]
    rw [alloc_setObj]; rfl
  have q1 : (Instr.mapUpdate 198 (.map (some w.heap.size)) (.int .i64 4) (.func (.func 186) #[] #[])).run Tryz.prog (w.alloc (.map #[⟨.int .i64 3, .func (.func 185) #[] #[], 0⟩] 1)) = .ok () (w.alloc (.map #[⟨.int .i64 3, .func (.func 185) #[] #[], 0⟩, ⟨.int .i64 4, .func (.func 186) #[] #[], 1⟩] 2)) := by
    rw [mapPut (.int .i64) Tryz.underlying198 Tryz.underlying3 (.inr ⟨_, rfl⟩) _ _ _ _ _ _ (heap_alloc_new w _) rfl]
    rw [alloc_setObj]; rfl
  have q2 : (Instr.mapUpdate 198 (.map (some w.heap.size)) (.int .i64 5) (.func (.func 187) #[] #[])).run Tryz.prog (w.alloc (.map #[⟨.int .i64 3, .func (.func 185) #[] #[], 0⟩, ⟨.int .i64 4, .func (.func 186) #[] #[], 1⟩] 2)) = .ok () (w.alloc (.map #[⟨.int .i64 3, .func (.func 185) #[] #[], 0⟩, ⟨.int .i64 4, .func (.func 186) #[] #[], 1⟩, ⟨.int .i64 5, .func (.func 187) #[] #[], 2⟩] 3)) := by
    rw [mapPut (.int .i64) Tryz.underlying198 Tryz.underlying3 (.inr ⟨_, rfl⟩) _ _ _ _ _ _ (heap_alloc_new w _) rfl]
    rw [alloc_setObj]; rfl
  have q3 : (Instr.mapUpdate 198 (.map (some w.heap.size)) (.int .i64 12) (.func (.func 188) #[] #[])).run Tryz.prog (w.alloc (.map #[⟨.int .i64 3, .func (.func 185) #[] #[], 0⟩, ⟨.int .i64 4, .func (.func 186) #[] #[], 1⟩, ⟨.int .i64 5, .func (.func 187) #[] #[], 2⟩] 3)) = .ok () (w.alloc (.map #[⟨.int .i64 3, .func (.func 185) #[] #[], 0⟩, ⟨.int .i64 4, .func (.func 186) #[] #[], 1⟩, ⟨.int .i64 5, .func (.func 187) #[] #[], 2⟩, ⟨.int .i64 12, .func (.func 188) #[] #[], 3⟩] 4)) := by
    rw [mapPut (.int .i64) Tryz.underlying198 Tryz.underlying3 (.inr ⟨_, rfl⟩) _ _ _ _ _ _ (heap_alloc_new w _) rfl]
    rw [alloc_setObj]; rfl
  have q4 : (Instr.mapUpdate 198 (.map (some w.heap.size)) (.int .i64 10) (.func (.func 189) #[] #[])).run Tryz.prog (w.alloc (.map #[⟨.int .i64 3, .func (.func 185) #[] #[], 0⟩, ⟨.int .i64 4, .func (.func 186) #[] #[], 1⟩, ⟨.int .i64 5, .func (.func 187) #[] #[], 2⟩, ⟨.int .i64 12, .func (.func 188) #[] #[], 3⟩] 4)) = .ok () (w.alloc (.map #[⟨.int .i64 3, .func (.func 185) #[] #[], 0⟩, ⟨.int .i64 4, .func (.func 186) #[] #[], 1⟩, ⟨.int .i64 5, .func (.func 187) #[] #[], 2⟩, ⟨.int .i64 12, .func (.func 188) #[] #[], 3⟩, ⟨.int .i64 10, .func (.func 189) #[] #[], 4⟩] 5)) := by
    rw [mapPut (.int .i64) Tryz.underlying198 Tryz.underlying3 (.inr ⟨_, rfl⟩) _ _ _ _ _ _ (heap_alloc_new w _) rfl]
    rw [alloc_setObj]; rfl
  have q5 : (Instr.mapUpdate 198 (.map (some w.heap.size)) (.int .i64 11) (.func (.func 190) #[] #[])).run Tryz.prog (w.alloc (.map #[⟨.int .i64 3, .func (.func 185) #[] #[], 0⟩, ⟨.int .i64 4, .func (.func 186) #[] #[], 1⟩, ⟨.int .i64 5, .func (.func 187) #[] #[], 2⟩, ⟨.int .i64 12, .func (.func 188) #[] #[], 3⟩, ⟨.int .i64 10, .func (.func 189) #[] #[], 4⟩] 5)) = .ok () (w.alloc (.map #[⟨.int .i64 3, .func (.func 185) #[] #[], 0⟩, ⟨.int .i64 4, .func (.func 186) #[] #[], 1⟩, ⟨.int .i64 5, .func (.func 187) #[] #[], 2⟩, ⟨.int .i64 12, .func (.func 188) #[] #[], 3⟩, ⟨.int .i64 10, .func (.func 189) #[] #[], 4⟩, ⟨.int .i64 11, .func (.func 190) #[] #[], 5⟩] 6)) := by
    rw [mapPut (.int .i64) Tryz.underlying198 Tryz.underlying3 (.inr ⟨_, rfl⟩) _ _ _ _ _ _ (heap_alloc_new w _) rfl]
    rw [alloc_setObj]; rfl
  go_enter Tryz.func156, Tryz.ntmps156
  go_wp2
  go_ret
  exact ⟨_, rfl, heap_alloc_new w _, Nat.le_refl _, (Below.refl _ w).alloc (Nat.le_refl _) _⟩
theorem bounds_strict.at3 (g : Nat) : ∀ W : World, W.heap[g]? = some (.map bounds_strict.E 6) → (Instr.lookup 198 (.map (some g)) (.int .i64 3) false).run Tryz.prog W = .ok (.func (.func 185) #[] #[]) W := fun W hg =>
  mapGet (.int .i64) Tryz.underlying198 Tryz.underlying3 (.inr ⟨_, rfl⟩) W g _ _ _ _ 0 hg rfl
end Go.Proofs.YteflfnjljjianaaGreatDoor.Qx
