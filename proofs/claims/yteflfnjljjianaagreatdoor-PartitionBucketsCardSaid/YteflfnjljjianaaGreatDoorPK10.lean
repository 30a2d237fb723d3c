/- Part of a proof of PartitionBucketsCardSaid: functions of the given program and what they compute, each checked by the kernel. -/
import Derived.Test.YteflfnjljjianaaGreatDoorPK02
import Derived.Test.YteflfnjljjianaaGreatDoorPK08
import Derived.Test.YteflfnjljjianaaGreatDoorPK09
import Derived.Test.YteflfnjljjianaaGreatDoorPK07
import Derived.Deep.RegionWith
import Derived.Deep.RegionHeld
import Derived.Test.YteflfnjljjianaaGreatDoorPK04
import Derived.Test.YteflfnjljjianaaGreatDoorPK05
namespace Go.Proofs.YteflfnjljjianaaGreatDoor.Qx
open Go.RowKit Go.Proofs.YteflfnjljjianaaGreatDoorW.PrintWords Go.Proofs.YteflfnjljjianaaGreatDoorW.PrintLast Go.Proofs.YteflfnjljjianaaGreatDoorW.PrintMore
attribute [local go_sem] max2_int min2_int max_two min_two
set_option linter.unusedVariables false
set_option linter.unusedSimpArgs false
set_option maxRecDepth 100000 in
set_option maxHeartbeats 4000000 in
theorem bounds_rangeOf.const (A0 : Option Addr) (n0 c0 : Nat) (c k i : Int) (s : ByteArray) (A : Option Addr) (n m : Nat) (w : World) :
    Calls Tryz.prog 128 #[.slice A0 n0 c0, .agg #[.int .i64 1, .int .i64 c, .int .i64 k, .int .i64 i, .string s, .slice A n m]] w fun e w' => e = .returned (.agg #[.bool false, .bool true, .int .i64 k, .int .i64 i, .string s, .int .i64 k, .int .i64 i, .string s]) ∧ Below w.heap.size w w' := by
  have hu38 := Tryz.underlying38
  have hu161 := Tryz.underlying161
  have hu35 := Tryz.underlying35
  go_enter Tryz.func128, Tryz.ntmps128
  go_wp2
  refine bodyPost_ret (v := .agg #[.bool false, .bool true, .int .i64 k, .int .i64 i, .string s, .int .i64 k, .int .i64 i, .string s]) (by simp [results, Tryz.results128, go_sem, *]) rfl ⟨rfl, ?_⟩
  repeat (refine below_set ?_ (by first | exact Nat.le_refl _ | exact Nat.le_add_right _ _))
  exact ((Below.refl _ w).alloc (Nat.le_refl _) _).alloc (by simp only [World.size_alloc]; omega) _
theorem blk_set8 {w : World} {g : Nat} {t : TypeId} {cs cs' : Array Value} (h : w.heap[g]? = some (.cells cs t (0, 0))) (i0 i1 i2 i3 i4 i5 i6 i7 : Nat) (u0 u1 u2 u3 u4 u5 u6 u7 : Value) (e : (((((((cs.setIfInBounds i0 u0).setIfInBounds i1 u1).setIfInBounds i2 u2).setIfInBounds i3 u3).setIfInBounds i4 u4).setIfInBounds i5 u5).setIfInBounds i6 u6).setIfInBounds i7 u7 = cs') :
    ((((((((w.setCell ⟨g, i0, none⟩ u0).setCell ⟨g, i1, none⟩ u1).setCell ⟨g, i2, none⟩ u2).setCell ⟨g, i3, none⟩ u3).setCell ⟨g, i4, none⟩ u4).setCell ⟨g, i5, none⟩ u5).setCell ⟨g, i6, none⟩ u6).setCell ⟨g, i7, none⟩ u7).heap[g]? = some (.cells cs' t (0, 0)) :=
  e ▸ blk_set (blk_set (blk_set (blk_set (blk_set (blk_set (blk_set (blk_set h i0 u0) i1 u1) i2 u2) i3 u3) i4 u4) i5 u5) i6 u6) i7 u7
theorem blk_far8 {w : World} {g : Nat} {t : TypeId} {cs : Array Value} (b : Nat) {u0 u1 u2 u3 u4 u5 u6 u7 : Value} (h : w.heap[g]? = some (.cells cs t (0, 0))) (hne : g ≠ b) :
    ((((((((w.setCell ⟨b, 0, none⟩ u0).setCell ⟨b, 1, none⟩ u1).setCell ⟨b, 2, none⟩ u2).setCell ⟨b, 3, none⟩ u3).setCell ⟨b, 4, none⟩ u4).setCell ⟨b, 5, none⟩ u5).setCell ⟨b, 6, none⟩ u6).setCell ⟨b, 7, none⟩ u7).heap[g]? = some (.cells cs t (0, 0)) :=
  blk_far (blk_far (blk_far (blk_far (blk_far (blk_far (blk_far (blk_far h hne _) hne _) hne _) hne _) hne _) hne _) hne _) hne _
theorem below_set8 {B : Nat} {w0 w : World} {b : Nat} (h : Below B w0 w) (hb : B ≤ b) (u0 u1 u2 u3 u4 u5 u6 u7 : Value) :
    Below B w0 ((((((((w.setCell ⟨b, 0, none⟩ u0).setCell ⟨b, 1, none⟩ u1).setCell ⟨b, 2, none⟩ u2).setCell ⟨b, 3, none⟩ u3).setCell ⟨b, 4, none⟩ u4).setCell ⟨b, 5, none⟩ u5).setCell ⟨b, 6, none⟩ u6).setCell ⟨b, 7, none⟩ u7) :=
  (((((((h.setCell hb _).setCell hb _).setCell hb _).setCell hb _).setCell hb _).setCell hb _).setCell hb _).setCell hb _
set_option maxRecDepth 100000 in
set_option maxHeartbeats 4000000 in
theorem bounds_rangeOf.col (A0 : Option Addr) (c0 : Nat) (l0 : List S82) (c k i : Int) (s : ByteArray) (A : Option Addr) (n m : Nat) (x : S82) (hx : rd_T82 l0 c = x) (w : World) (hr : Kd.C k82 w A0 l0.length l0) (h0 : 0 ≤ c) (h1 : c < (l0.length : Int)) :
    Calls Tryz.prog 128 #[.slice A0 l0.length c0, .agg #[.int .i64 2, .int .i64 c, .int .i64 k, .int .i64 i, .string s, .slice A n m]] w fun e w' => e = .returned (.agg #[.bool (decide (0 < x.f0)), .bool x.f1, .int .i64 x.f2.f0, .int .i64 x.f2.f1, .string x.f2.f2, .int .i64 x.f3.f0, .int .i64 x.f3.f1, .string x.f3.f2]) ∧ Below w.heap.size w w' := by
  have hu38 := Tryz.underlying38
  have hu161 := Tryz.underlying161
  have hu82 := Tryz.underlying82
  have hu35 := Tryz.underlying35
  obtain ⟨ad, e0, y0, y1, y2, y3, y4, y5, y6, y7, y8⟩ := at_T82 hr c h0 h1
  rw [hx] at y0 y1 y2 y3 y4 y5 y6 y7 y8
  subst e0
  clear hr hx
  have hw := ((Below.refl _ w).alloc (Nat.le_refl _) (.cells #[.int .i64 2, .int .i64 c, .int .i64 k, .int .i64 i, .string s, .slice A n m] 38)).alloc (by simp only [World.size_alloc]; omega) (.cells #[.bool false, .bool false, .int .i64 0, .int .i64 0, .string ⟨#[]⟩, .int .i64 0, .int .i64 0, .string ⟨#[]⟩] 161)
  replace y0 := pw_cell_below hw y0
  replace y1 := pw_cell_below hw y1
  replace y2 := pw_cell_below hw y2
  replace y3 := pw_cell_below hw y3
  replace y4 := pw_cell_below hw y4
  replace y5 := pw_cell_below hw y5
  replace y6 := pw_cell_below hw y6
  replace y7 := pw_cell_below hw y7
  replace y8 := pw_cell_below hw y8
  clear hw
  go_enter Tryz.func128, Tryz.ntmps128
  go_wp2
  refine bodyPost_ret (v := .agg #[.bool (decide (0 < x.f0)), .bool x.f1, .int .i64 x.f2.f0, .int .i64 x.f2.f1, .string x.f2.f2, .int .i64 x.f3.f0, .int .i64 x.f3.f1, .string x.f3.f2]) (by simp [results, Tryz.results128, go_sem, *]) rfl ⟨rfl, ?_⟩
  repeat (refine below_set ?_ (by first | exact Nat.le_refl _ | exact Nat.le_add_right _ _))
  exact (((Below.refl _ w).alloc (Nat.le_refl _) _).alloc (by simp only [World.size_alloc]; omega) _).alloc (by simp only [World.size_alloc]; omega) _
set_option maxRecDepth 100000 in
set_option maxHeartbeats 8000000 in
theorem bounds_rangeOf.eqno (A0 : Option Addr) (c0 : Nat) (l0 : List S82) (c k i : Int) (s : ByteArray) (A : Option Addr) (m : Nat) (cc ce : Int) (v0 v1 : S35) (a0 a1 : List S38) (x : S82) (hx : rd_T82 l0 cc = x) (d0 : Bool) (hd : decide (0 < x.f0) = d0) (w : World) (hr : Kd.C k82 w A0 l0.length l0)
    (he : Kd.C k38 w A 2 [⟨2, cc, v0, a0⟩, ⟨1, ce, v1, a1⟩]) (h0 : 0 ≤ cc) (h1 : cc < (l0.length : Int)) (hhas : x.f1 = false)  :
    Calls Tryz.prog 128 #[.slice A0 l0.length c0, .agg #[.int .i64 3, .int .i64 c, .int .i64 k, .int .i64 i, .string s, .slice A 2 m]] w fun e w' => e = .returned (.agg #[.bool d0, .bool false, .int .i64 0, .int .i64 0, .string ⟨#[]⟩, .int .i64 0, .int .i64 0, .string ⟨#[]⟩]) ∧ Below w.heap.size w w' := by
  have hu38 := Tryz.underlying38
  have hu161 := Tryz.underlying161
  have hu195 := Tryz.underlying195
  have hu35 := Tryz.underlying35
  have HR := Lib.hid hr
  have HE := Lib.hid he
  have HX := Lib.hid hx
  have HD := Lib.hid hd
  have HH := Lib.hid hhas
  clear hr he hx hd hhas
  go_enter Tryz.func128, Tryz.ntmps128
  go_wp2
  have B3 := blk_alloc (blk_alloc (heap_alloc_new w (.cells #[.int .i64 3, .int .i64 c, .int .i64 k, .int .i64 i, .string s, .slice A 2 m] 38)) (.cells #[.bool false, .bool false, .int .i64 0, .int .i64 0, .string ⟨#[]⟩, .int .i64 0, .int .i64 0, .string ⟨#[]⟩] 161)) (.cells #[.bool false, .bool false, .int .i64 0, .int .i64 0, .string ⟨#[]⟩, .int .i64 0, .int .i64 0, .string ⟨#[]⟩, .bool false, .bool false, .int .i64 0, .int .i64 0, .string ⟨#[]⟩, .int .i64 0, .int .i64 0, .string ⟨#[]⟩] 195)
  have B4 := blk_alloc (heap_alloc_new (w.alloc (.cells #[.int .i64 3, .int .i64 c, .int .i64 k, .int .i64 i, .string s, .slice A 2 m] 38)) (.cells #[.bool false, .bool false, .int .i64 0, .int .i64 0, .string ⟨#[]⟩, .int .i64 0, .int .i64 0, .string ⟨#[]⟩] 161)) (.cells #[.bool false, .bool false, .int .i64 0, .int .i64 0, .string ⟨#[]⟩, .int .i64 0, .int .i64 0, .string ⟨#[]⟩, .bool false, .bool false, .int .i64 0, .int .i64 0, .string ⟨#[]⟩, .int .i64 0, .int .i64 0, .string ⟨#[]⟩] 195)
  have B6 := heap_alloc_new ((w.alloc (.cells #[.int .i64 3, .int .i64 c, .int .i64 k, .int .i64 i, .string s, .slice A 2 m] 38)).alloc (.cells #[.bool false, .bool false, .int .i64 0, .int .i64 0, .string ⟨#[]⟩, .int .i64 0, .int .i64 0, .string ⟨#[]⟩] 161)) (.cells #[.bool false, .bool false, .int .i64 0, .int .i64 0, .string ⟨#[]⟩, .int .i64 0, .int .i64 0, .string ⟨#[]⟩, .bool false, .bool false, .int .i64 0, .int .i64 0, .string ⟨#[]⟩, .int .i64 0, .int .i64 0, .string ⟨#[]⟩] 195)
  have hB := (((Below.refl _ w).alloc (Nat.le_refl _) (.cells #[.int .i64 3, .int .i64 c, .int .i64 k, .int .i64 i, .string s, .slice A 2 m] 38)).alloc (by simp only [World.size_alloc]; omega) (.cells #[.bool false, .bool false, .int .i64 0, .int .i64 0, .string ⟨#[]⟩, .int .i64 0, .int .i64 0, .string ⟨#[]⟩] 161)).alloc (by simp only [World.size_alloc]; omega) (.cells #[.bool false, .bool false, .int .i64 0, .int .i64 0, .string ⟨#[]⟩, .int .i64 0, .int .i64 0, .string ⟨#[]⟩, .bool false, .bool false, .int .i64 0, .int .i64 0, .string ⟨#[]⟩, .int .i64 0, .int .i64 0, .string ⟨#[]⟩] 195)
  simp only [World.size_alloc] at B4 B6
  generalize ((w.alloc (.cells #[.int .i64 3, .int .i64 c, .int .i64 k, .int .i64 i, .string s, .slice A 2 m] 38)).alloc (.cells #[.bool false, .bool false, .int .i64 0, .int .i64 0, .string ⟨#[]⟩, .int .i64 0, .int .i64 0, .string ⟨#[]⟩] 161)).alloc (.cells #[.bool false, .bool false, .int .i64 0, .int .i64 0, .string ⟨#[]⟩, .int .i64 0, .int .i64 0, .string ⟨#[]⟩, .bool false, .bool false, .int .i64 0, .int .i64 0, .string ⟨#[]⟩, .int .i64 0, .int .i64 0, .string ⟨#[]⟩] 195) = W at *
  go_loopw [41] (fun s41 wr => ∃ j : Nat, s41 = .int .i64 j ∧ j ≤ 2 ∧ wr.heap[w.heap.size]? = some (.cells #[.int .i64 3, .int .i64 c, .int .i64 k, .int .i64 i, .string s, .slice A 2 m] 38 (0, 0)) ∧ wr.heap[w.heap.size + 1]? = some (.cells #[.bool false, .bool false, .int .i64 0, .int .i64 0, .string ⟨#[]⟩, .int .i64 0, .int .i64 0, .string ⟨#[]⟩] 161 (0, 0)) ∧ wr.heap[w.heap.size + 1 + 1]? = some (.cells (match j with | 0 => #[.bool false, .bool false, .int .i64 0, .int .i64 0, .string ⟨#[]⟩, .int .i64 0, .int .i64 0, .string ⟨#[]⟩, .bool false, .bool false, .int .i64 0, .int .i64 0, .string ⟨#[]⟩, .int .i64 0, .int .i64 0, .string ⟨#[]⟩] | 1 => #[.bool d0, .bool false, .int .i64 x.f2.f0, .int .i64 x.f2.f1, .string x.f2.f2, .int .i64 x.f3.f0, .int .i64 x.f3.f1, .string x.f3.f2, .bool false, .bool false, .int .i64 0, .int .i64 0, .string ⟨#[]⟩, .int .i64 0, .int .i64 0, .string ⟨#[]⟩] | _ => #[.bool d0, .bool false, .int .i64 x.f2.f0, .int .i64 x.f2.f1, .string x.f2.f2, .int .i64 x.f3.f0, .int .i64 x.f3.f1, .string x.f3.f2, .bool false, .bool true, .int .i64 v1.f0, .int .i64 v1.f1, .string v1.f2, .int .i64 v1.f0, .int .i64 v1.f1, .string v1.f2]) 195 (0, 0)) ∧ Below w.heap.size w wr) (fun s41 _ => 2 - (intOf s41).toNat)
  case atStart => exact ⟨0, rfl, by omega, B3, B4, B6, hB⟩
  case round =>
    clear B3 B4 B6 hB
    obtain ⟨j, rfl, hj, B3, B4, B6, hB⟩ := hrel
    obtain rfl | rfl | rfl : j = 0 ∨ j = 1 ∨ j = 2 := by omega
    · obtain ⟨ad, A5, c5, e5, q0, q1, q2, q3, q4, q5, _, _⟩ := at_T38 (Kd.C_below HE.out hB) 0 (by omega) (by omega)
      subst e5
      simp only [rd_T38, Int.toNat_zero, Nat.zero_mul, List.getD_cons_zero] at q0 q1 q2 q3 q4 q5
      have ez : ad.add 0 = ad := rfl
      simp only [ez] at q0 q1 q2 q3 q4 q5
      clear ez
      go_wp2_with fail
      have K := bounds_rangeOf.col A0 c0 l0 cc v0.f0 v0.f1 v0.f2 A5 a0.length c5 x HX.out _ (Kd.C_below HR.out (hB.alloc hB.size (.cells #[.int .i64 2, .int .i64 cc, .int .i64 v0.f0, .int .i64 v0.f1, .string v0.f2, .slice A5 a0.length c5] 38))) h0 h1
      rw [HD.out, HH.out] at K
      refine K.mono ?_
      rintro e w1 ⟨rfl, hb1⟩
      have C3 := blk_below (blk_alloc B3 _) hb1
      have C4 := blk_below (blk_alloc B4 _) hb1
      have C6 := blk_below (blk_alloc B6 _) hb1
      have hB1 := below_then (hB.alloc hB.size _) (hB.alloc hB.size _).size hb1
      have z0 := blk_cell C6 0
      have y0 := blk_frozen C6 0
      have z1 := blk_cell C6 1
      have y1 := blk_frozen C6 1
      have z2 := blk_cell C6 2
      have y2 := blk_frozen C6 2
      have z3 := blk_cell C6 3
      have y3 := blk_frozen C6 3
      have z4 := blk_cell C6 4
      have y4 := blk_frozen C6 4
      have z5 := blk_cell C6 5
      have y5 := blk_frozen C6 5
      have z6 := blk_cell C6 6
      have y6 := blk_frozen C6 6
      have z7 := blk_cell C6 7
      have y7 := blk_frozen C6 7
      go_wp2
      refine ⟨⟨1, rfl, by omega, ?_, ?_, ?_, ?_⟩, by simp [intOf]⟩
      · repeat (refine blk_far ?_ (by simp only [ne_eq]; omega) _)
        exact C3
      · repeat (refine blk_far ?_ (by simp only [ne_eq]; omega) _)
        exact C4
      · exact blk_set8 C6 0 1 2 3 4 5 6 7 _ _ _ _ _ _ _ _ (by simp only [List.setIfInBounds_toArray, List.set_cons_succ, List.set_cons_zero])
      · repeat (refine below_set ?_ (by first | exact Nat.le_refl _ | exact Nat.le_add_right _ _ | (show w.heap.size ≤ w.heap.size + 1 + 1; omega)))
        exact hB1
    · obtain ⟨ad, A5, c5, e5, q0, q1, q2, q3, q4, q5, _, _⟩ := at_T38 (Kd.C_below HE.out hB) 1 (by omega) (by omega)
      subst e5
      simp only [rd_T38, Int.toNat_one, Nat.one_mul, List.getD_cons_zero, List.getD_cons_succ] at q0 q1 q2 q3 q4 q5
      have ez : ad.add 6 = ⟨ad.block, ad.off + 6, none⟩ := by simp [Addr.add]
      simp only [ez] at q0 q1 q2 q3 q4 q5
      clear ez
      go_wp2_with fail
      have K := bounds_rangeOf.const A0 l0.length c0 ce v1.f0 v1.f1 v1.f2 A5 a1.length c5
      refine (K _).mono ?_
      rintro e w1 ⟨rfl, hb1⟩
      have C3 := blk_below (blk_alloc B3 _) hb1
      have C4 := blk_below (blk_alloc B4 _) hb1
      have C6 := blk_below (blk_alloc B6 _) hb1
      have hB1 := below_then (hB.alloc hB.size _) (hB.alloc hB.size _).size hb1
      have z8 := blk_cell C6 8
      have y8 := blk_frozen C6 8
      have z9 := blk_cell C6 9
      have y9 := blk_frozen C6 9
      have z10 := blk_cell C6 10
      have y10 := blk_frozen C6 10
      have z11 := blk_cell C6 11
      have y11 := blk_frozen C6 11
      have z12 := blk_cell C6 12
      have y12 := blk_frozen C6 12
      have z13 := blk_cell C6 13
      have y13 := blk_frozen C6 13
      have z14 := blk_cell C6 14
      have y14 := blk_frozen C6 14
      have z15 := blk_cell C6 15
      have y15 := blk_frozen C6 15
      go_wp2
      refine ⟨⟨2, rfl, by omega, ?_, ?_, ?_, ?_⟩, by simp [intOf]⟩
      · repeat (refine blk_far ?_ (by simp only [ne_eq]; omega) _)
        exact C3
      · repeat (refine blk_far ?_ (by simp only [ne_eq]; omega) _)
        exact C4
      · exact blk_set8 C6 8 9 10 11 12 13 14 15 _ _ _ _ _ _ _ _ (by simp only [List.setIfInBounds_toArray, List.set_cons_succ, List.set_cons_zero])
      · repeat (refine below_set ?_ (by first | exact Nat.le_refl _ | exact Nat.le_add_right _ _ | (show w.heap.size ≤ w.heap.size + 1 + 1; omega)))
        exact hB1
    · clear HE HX
      go_wp2_with fail
      have c0 : wr.cell? ⟨w.heap.size, 0, none⟩ = some (.int .i64 3) := (blk_cell B3 0).trans rfl
      have HB := Lib.hid hB
      have H3 := Lib.hid B3
      have H4 := Lib.hid B4
      have H6 := Lib.hid B6
      clear hB B3 B4 B6
      go_region_with (first | (go_at_call 155
                               refine (bounds_logic.made _).mono ?_
                               rintro e w1 ⟨g1, rfl, hm1, hg1, hb1⟩
                               have e0 : w1.heap[g1]? = some (.map bounds_logic.E 4) := hm1
                               have f1 := bounds_logic.miss g1 3 (.inl (by omega))
                               have g0 : w1.cell? ⟨w.heap.size, 0, none⟩ = some (.int .i64 3) := (blk_cell (blk_below (blk_drew H3.out) hb1) 0).trans rfl))
      all_goals
        have hB1 := below_then HB.out HB.out.size (Below.trans (below_drew1 (Below.refl _ wr)) hb1)
        have D6 := blk_alloc (blk_below (blk_drew H6.out) hb1) (.cells #[.bool false, .bool false, .int .i64 0, .int .i64 0, .string ⟨#[]⟩, .int .i64 0, .int .i64 0, .string ⟨#[]⟩] 161)
        have D3 := blk_alloc (blk_below (blk_drew H3.out) hb1) (.cells #[.bool false, .bool false, .int .i64 0, .int .i64 0, .string ⟨#[]⟩, .int .i64 0, .int .i64 0, .string ⟨#[]⟩] 161)
        have c3 : (w1.alloc (.cells #[.bool false, .bool false, .int .i64 0, .int .i64 0, .string ⟨#[]⟩, .int .i64 0, .int .i64 0, .string ⟨#[]⟩] 161)).cell? ⟨w.heap.size, 0, none⟩ = some (.int .i64 3) := (blk_cell D3 0).trans rfl
        have m0 : (w1.alloc (.cells #[.bool false, .bool false, .int .i64 0, .int .i64 0, .string ⟨#[]⟩, .int .i64 0, .int .i64 0, .string ⟨#[]⟩] 161)).cell? ⟨w.heap.size + 1 + 1, 0, none⟩ = some (.bool d0) := (blk_cell D6 0).trans rfl
        have m1 : (w1.alloc (.cells #[.bool false, .bool false, .int .i64 0, .int .i64 0, .string ⟨#[]⟩, .int .i64 0, .int .i64 0, .string ⟨#[]⟩] 161)).cell? ⟨w.heap.size + 1 + 1, 1, none⟩ = some (.bool false) := (blk_cell D6 1).trans rfl
        have m2 : (w1.alloc (.cells #[.bool false, .bool false, .int .i64 0, .int .i64 0, .string ⟨#[]⟩, .int .i64 0, .int .i64 0, .string ⟨#[]⟩] 161)).cell? ⟨w.heap.size + 1 + 1, 2, none⟩ = some (.int .i64 x.f2.f0) := (blk_cell D6 2).trans rfl
        have m3 : (w1.alloc (.cells #[.bool false, .bool false, .int .i64 0, .int .i64 0, .string ⟨#[]⟩, .int .i64 0, .int .i64 0, .string ⟨#[]⟩] 161)).cell? ⟨w.heap.size + 1 + 1, 3, none⟩ = some (.int .i64 x.f2.f1) := (blk_cell D6 3).trans rfl
        have m4 : (w1.alloc (.cells #[.bool false, .bool false, .int .i64 0, .int .i64 0, .string ⟨#[]⟩, .int .i64 0, .int .i64 0, .string ⟨#[]⟩] 161)).cell? ⟨w.heap.size + 1 + 1, 4, none⟩ = some (.string x.f2.f2) := (blk_cell D6 4).trans rfl
        have m5 : (w1.alloc (.cells #[.bool false, .bool false, .int .i64 0, .int .i64 0, .string ⟨#[]⟩, .int .i64 0, .int .i64 0, .string ⟨#[]⟩] 161)).cell? ⟨w.heap.size + 1 + 1, 5, none⟩ = some (.int .i64 x.f3.f0) := (blk_cell D6 5).trans rfl
        have m6 : (w1.alloc (.cells #[.bool false, .bool false, .int .i64 0, .int .i64 0, .string ⟨#[]⟩, .int .i64 0, .int .i64 0, .string ⟨#[]⟩] 161)).cell? ⟨w.heap.size + 1 + 1, 6, none⟩ = some (.int .i64 x.f3.f1) := (blk_cell D6 6).trans rfl
        have m7 : (w1.alloc (.cells #[.bool false, .bool false, .int .i64 0, .int .i64 0, .string ⟨#[]⟩, .int .i64 0, .int .i64 0, .string ⟨#[]⟩] 161)).cell? ⟨w.heap.size + 1 + 1, 7, none⟩ = some (.string x.f3.f2) := (blk_cell D6 7).trans rfl
        have m8 : (w1.alloc (.cells #[.bool false, .bool false, .int .i64 0, .int .i64 0, .string ⟨#[]⟩, .int .i64 0, .int .i64 0, .string ⟨#[]⟩] 161)).cell? ⟨w.heap.size + 1 + 1, 8, none⟩ = some (.bool false) := (blk_cell D6 8).trans rfl
        have m9 : (w1.alloc (.cells #[.bool false, .bool false, .int .i64 0, .int .i64 0, .string ⟨#[]⟩, .int .i64 0, .int .i64 0, .string ⟨#[]⟩] 161)).cell? ⟨w.heap.size + 1 + 1, 9, none⟩ = some (.bool true) := (blk_cell D6 9).trans rfl
        have m10 : (w1.alloc (.cells #[.bool false, .bool false, .int .i64 0, .int .i64 0, .string ⟨#[]⟩, .int .i64 0, .int .i64 0, .string ⟨#[]⟩] 161)).cell? ⟨w.heap.size + 1 + 1, 10, none⟩ = some (.int .i64 v1.f0) := (blk_cell D6 10).trans rfl
        have m11 : (w1.alloc (.cells #[.bool false, .bool false, .int .i64 0, .int .i64 0, .string ⟨#[]⟩, .int .i64 0, .int .i64 0, .string ⟨#[]⟩] 161)).cell? ⟨w.heap.size + 1 + 1, 11, none⟩ = some (.int .i64 v1.f1) := (blk_cell D6 11).trans rfl
        have m12 : (w1.alloc (.cells #[.bool false, .bool false, .int .i64 0, .int .i64 0, .string ⟨#[]⟩, .int .i64 0, .int .i64 0, .string ⟨#[]⟩] 161)).cell? ⟨w.heap.size + 1 + 1, 12, none⟩ = some (.string v1.f2) := (blk_cell D6 12).trans rfl
        have m13 : (w1.alloc (.cells #[.bool false, .bool false, .int .i64 0, .int .i64 0, .string ⟨#[]⟩, .int .i64 0, .int .i64 0, .string ⟨#[]⟩] 161)).cell? ⟨w.heap.size + 1 + 1, 13, none⟩ = some (.int .i64 v1.f0) := (blk_cell D6 13).trans rfl
        have m14 : (w1.alloc (.cells #[.bool false, .bool false, .int .i64 0, .int .i64 0, .string ⟨#[]⟩, .int .i64 0, .int .i64 0, .string ⟨#[]⟩] 161)).cell? ⟨w.heap.size + 1 + 1, 14, none⟩ = some (.int .i64 v1.f1) := (blk_cell D6 14).trans rfl
        have m15 : (w1.alloc (.cells #[.bool false, .bool false, .int .i64 0, .int .i64 0, .string ⟨#[]⟩, .int .i64 0, .int .i64 0, .string ⟨#[]⟩] 161)).cell? ⟨w.heap.size + 1 + 1, 15, none⟩ = some (.string v1.f2) := (blk_cell D6 15).trans rfl
        have D4 := blk_below (blk_drew H4.out) hb1
        have n0 : ∀ o, (w1.alloc o).cell? ⟨w.heap.size + 1, 0, none⟩ = some (.bool false) := fun o => (blk_cell (blk_alloc D4 o) 0).trans rfl
        have l0 : ∀ o, (w1.alloc o).frozen? ⟨w.heap.size + 1, 0, none⟩ = false := fun o => blk_frozen (blk_alloc D4 o) 0
        have n1 : ∀ o, (w1.alloc o).cell? ⟨w.heap.size + 1, 1, none⟩ = some (.bool false) := fun o => (blk_cell (blk_alloc D4 o) 1).trans rfl
        have l1 : ∀ o, (w1.alloc o).frozen? ⟨w.heap.size + 1, 1, none⟩ = false := fun o => blk_frozen (blk_alloc D4 o) 1
        have n2 : ∀ o, (w1.alloc o).cell? ⟨w.heap.size + 1, 2, none⟩ = some (.int .i64 0) := fun o => (blk_cell (blk_alloc D4 o) 2).trans rfl
        have l2 : ∀ o, (w1.alloc o).frozen? ⟨w.heap.size + 1, 2, none⟩ = false := fun o => blk_frozen (blk_alloc D4 o) 2
        have n3 : ∀ o, (w1.alloc o).cell? ⟨w.heap.size + 1, 3, none⟩ = some (.int .i64 0) := fun o => (blk_cell (blk_alloc D4 o) 3).trans rfl
        have l3 : ∀ o, (w1.alloc o).frozen? ⟨w.heap.size + 1, 3, none⟩ = false := fun o => blk_frozen (blk_alloc D4 o) 3
        have n4 : ∀ o, (w1.alloc o).cell? ⟨w.heap.size + 1, 4, none⟩ = some (.string ⟨#[]⟩) := fun o => (blk_cell (blk_alloc D4 o) 4).trans rfl
        have l4 : ∀ o, (w1.alloc o).frozen? ⟨w.heap.size + 1, 4, none⟩ = false := fun o => blk_frozen (blk_alloc D4 o) 4
        have n5 : ∀ o, (w1.alloc o).cell? ⟨w.heap.size + 1, 5, none⟩ = some (.int .i64 0) := fun o => (blk_cell (blk_alloc D4 o) 5).trans rfl
        have l5 : ∀ o, (w1.alloc o).frozen? ⟨w.heap.size + 1, 5, none⟩ = false := fun o => blk_frozen (blk_alloc D4 o) 5
        have n6 : ∀ o, (w1.alloc o).cell? ⟨w.heap.size + 1, 6, none⟩ = some (.int .i64 0) := fun o => (blk_cell (blk_alloc D4 o) 6).trans rfl
        have l6 : ∀ o, (w1.alloc o).frozen? ⟨w.heap.size + 1, 6, none⟩ = false := fun o => blk_frozen (blk_alloc D4 o) 6
        have n7 : ∀ o, (w1.alloc o).cell? ⟨w.heap.size + 1, 7, none⟩ = some (.string ⟨#[]⟩) := fun o => (blk_cell (blk_alloc D4 o) 7).trans rfl
        have l7 : ∀ o, (w1.alloc o).frozen? ⟨w.heap.size + 1, 7, none⟩ = false := fun o => blk_frozen (blk_alloc D4 o) 7
        replace D4 := Lib.hid D4
        replace D6 := Lib.hid D6
        replace D3 := Lib.hid D3
        clear e0 f1 hm1 c0 g0
        have hB2 := hB1.alloc hB1.size (.cells #[.bool false, .bool false, .int .i64 0, .int .i64 0, .string ⟨#[]⟩, .int .i64 0, .int .i64 0, .string ⟨#[]⟩] 161)
        cases d0
        · go_wp2
          trace_state
          refine bodyPost_ret (v := .agg #[.bool false, .bool false, .int .i64 0, .int .i64 0, .string ⟨#[]⟩, .int .i64 0, .int .i64 0, .string ⟨#[]⟩]) (by simp [results, Tryz.results128, go_sem, *]) rfl ⟨rfl, ?_⟩
          repeat (refine below_set ?_ (by first | exact Nat.le_refl _ | exact Nat.le_add_right _ _))
          exact hB1.alloc hB1.size _
        · go_wp2
          refine bodyPost_ret (v := .agg #[.bool true, .bool false, .int .i64 0, .int .i64 0, .string ⟨#[]⟩, .int .i64 0, .int .i64 0, .string ⟨#[]⟩]) (by simp [results, Tryz.results128, go_sem, *]) rfl ⟨rfl, ?_⟩
          repeat (refine below_set ?_ (by first | exact Nat.le_refl _ | exact Nat.le_add_right _ _))
          exact hB1.alloc hB1.size _
set_option maxRecDepth 100000 in
set_option maxHeartbeats 8000000 in
theorem bounds_rangeOf.eqyes (A0 : Option Addr) (c0 : Nat) (l0 : List S82) (c k i : Int) (s : ByteArray) (A : Option Addr) (m : Nat) (cc ce : Int) (v0 v1 : S35) (a0 a1 : List S38) (x : S82) (hx : rd_T82 l0 cc = x) (d0 : Bool) (hd : decide (0 < x.f0) = d0) (w : World) (hr : Kd.C k82 w A0 l0.length l0)
    (he : Kd.C k38 w A 2 [⟨2, cc, v0, a0⟩, ⟨1, ce, v1, a1⟩]) (h0 : 0 ≤ cc) (h1 : cc < (l0.length : Int)) (hhas : x.f1 = true) (K : Nat) (r1 : Bool) (r2 r3 : Int) (r4 : ByteArray) (r5 r6 : Int) (r7 : ByteArray)
    (HQ : bounds_span_equal.f K d0 true x.f2.f0 x.f2.f1 x.f2.f2 x.f3.f0 x.f3.f1 x.f3.f2 false true v1.f0 v1.f1 v1.f2 v1.f0 v1.f1 v1.f2 = some (false, r1, r2, r3, r4, r5, r6, r7)) :
    Calls Tryz.prog 128 #[.slice A0 l0.length c0, .agg #[.int .i64 3, .int .i64 c, .int .i64 k, .int .i64 i, .string s, .slice A 2 m]] w fun e w' => e = .returned (.agg #[.bool d0, .bool r1, .int .i64 r2, .int .i64 r3, .string r4, .int .i64 r5, .int .i64 r6, .string r7]) ∧ Below w.heap.size w w' := by
  have hu38 := Tryz.underlying38
  have hu161 := Tryz.underlying161
  have hu195 := Tryz.underlying195
  have hu35 := Tryz.underlying35
  have HR := Lib.hid hr
  have HE := Lib.hid he
  have HX := Lib.hid hx
  have HD := Lib.hid hd
  have HH := Lib.hid hhas
  clear hr he hx hd hhas
  go_enter Tryz.func128, Tryz.ntmps128
  go_wp2
  have B3 := blk_alloc (blk_alloc (heap_alloc_new w (.cells #[.int .i64 3, .int .i64 c, .int .i64 k, .int .i64 i, .string s, .slice A 2 m] 38)) (.cells #[.bool false, .bool false, .int .i64 0, .int .i64 0, .string ⟨#[]⟩, .int .i64 0, .int .i64 0, .string ⟨#[]⟩] 161)) (.cells #[.bool false, .bool false, .int .i64 0, .int .i64 0, .string ⟨#[]⟩, .int .i64 0, .int .i64 0, .string ⟨#[]⟩, .bool false, .bool false, .int .i64 0, .int .i64 0, .string ⟨#[]⟩, .int .i64 0, .int .i64 0, .string ⟨#[]⟩] 195)
  have B4 := blk_alloc (heap_alloc_new (w.alloc (.cells #[.int .i64 3, .int .i64 c, .int .i64 k, .int .i64 i, .string s, .slice A 2 m] 38)) (.cells #[.bool false, .bool false, .int .i64 0, .int .i64 0, .string ⟨#[]⟩, .int .i64 0, .int .i64 0, .string ⟨#[]⟩] 161)) (.cells #[.bool false, .bool false, .int .i64 0, .int .i64 0, .string ⟨#[]⟩, .int .i64 0, .int .i64 0, .string ⟨#[]⟩, .bool false, .bool false, .int .i64 0, .int .i64 0, .string ⟨#[]⟩, .int .i64 0, .int .i64 0, .string ⟨#[]⟩] 195)
  have B6 := heap_alloc_new ((w.alloc (.cells #[.int .i64 3, .int .i64 c, .int .i64 k, .int .i64 i, .string s, .slice A 2 m] 38)).alloc (.cells #[.bool false, .bool false, .int .i64 0, .int .i64 0, .string ⟨#[]⟩, .int .i64 0, .int .i64 0, .string ⟨#[]⟩] 161)) (.cells #[.bool false, .bool false, .int .i64 0, .int .i64 0, .string ⟨#[]⟩, .int .i64 0, .int .i64 0, .string ⟨#[]⟩, .bool false, .bool false, .int .i64 0, .int .i64 0, .string ⟨#[]⟩, .int .i64 0, .int .i64 0, .string ⟨#[]⟩] 195)
  have hB := (((Below.refl _ w).alloc (Nat.le_refl _) (.cells #[.int .i64 3, .int .i64 c, .int .i64 k, .int .i64 i, .string s, .slice A 2 m] 38)).alloc (by simp only [World.size_alloc]; omega) (.cells #[.bool false, .bool false, .int .i64 0, .int .i64 0, .string ⟨#[]⟩, .int .i64 0, .int .i64 0, .string ⟨#[]⟩] 161)).alloc (by simp only [World.size_alloc]; omega) (.cells #[.bool false, .bool false, .int .i64 0, .int .i64 0, .string ⟨#[]⟩, .int .i64 0, .int .i64 0, .string ⟨#[]⟩, .bool false, .bool false, .int .i64 0, .int .i64 0, .string ⟨#[]⟩, .int .i64 0, .int .i64 0, .string ⟨#[]⟩] 195)
  simp only [World.size_alloc] at B4 B6
  generalize ((w.alloc (.cells #[.int .i64 3, .int .i64 c, .int .i64 k, .int .i64 i, .string s, .slice A 2 m] 38)).alloc (.cells #[.bool false, .bool false, .int .i64 0, .int .i64 0, .string ⟨#[]⟩, .int .i64 0, .int .i64 0, .string ⟨#[]⟩] 161)).alloc (.cells #[.bool false, .bool false, .int .i64 0, .int .i64 0, .string ⟨#[]⟩, .int .i64 0, .int .i64 0, .string ⟨#[]⟩, .bool false, .bool false, .int .i64 0, .int .i64 0, .string ⟨#[]⟩, .int .i64 0, .int .i64 0, .string ⟨#[]⟩] 195) = W at *
  go_loopw [41] (fun s41 wr => ∃ j : Nat, s41 = .int .i64 j ∧ j ≤ 2 ∧ wr.heap[w.heap.size]? = some (.cells #[.int .i64 3, .int .i64 c, .int .i64 k, .int .i64 i, .string s, .slice A 2 m] 38 (0, 0)) ∧ wr.heap[w.heap.size + 1]? = some (.cells #[.bool false, .bool false, .int .i64 0, .int .i64 0, .string ⟨#[]⟩, .int .i64 0, .int .i64 0, .string ⟨#[]⟩] 161 (0, 0)) ∧ wr.heap[w.heap.size + 1 + 1]? = some (.cells (match j with | 0 => #[.bool false, .bool false, .int .i64 0, .int .i64 0, .string ⟨#[]⟩, .int .i64 0, .int .i64 0, .string ⟨#[]⟩, .bool false, .bool false, .int .i64 0, .int .i64 0, .string ⟨#[]⟩, .int .i64 0, .int .i64 0, .string ⟨#[]⟩] | 1 => #[.bool d0, .bool true, .int .i64 x.f2.f0, .int .i64 x.f2.f1, .string x.f2.f2, .int .i64 x.f3.f0, .int .i64 x.f3.f1, .string x.f3.f2, .bool false, .bool false, .int .i64 0, .int .i64 0, .string ⟨#[]⟩, .int .i64 0, .int .i64 0, .string ⟨#[]⟩] | _ => #[.bool d0, .bool true, .int .i64 x.f2.f0, .int .i64 x.f2.f1, .string x.f2.f2, .int .i64 x.f3.f0, .int .i64 x.f3.f1, .string x.f3.f2, .bool false, .bool true, .int .i64 v1.f0, .int .i64 v1.f1, .string v1.f2, .int .i64 v1.f0, .int .i64 v1.f1, .string v1.f2]) 195 (0, 0)) ∧ Below w.heap.size w wr) (fun s41 _ => 2 - (intOf s41).toNat)
  case atStart => exact ⟨0, rfl, by omega, B3, B4, B6, hB⟩
  case round =>
    clear B3 B4 B6 hB
    obtain ⟨j, rfl, hj, B3, B4, B6, hB⟩ := hrel
    obtain rfl | rfl | rfl : j = 0 ∨ j = 1 ∨ j = 2 := by omega
    · obtain ⟨ad, A5, c5, e5, q0, q1, q2, q3, q4, q5, _, _⟩ := at_T38 (Kd.C_below HE.out hB) 0 (by omega) (by omega)
      subst e5
      simp only [rd_T38, Int.toNat_zero, Nat.zero_mul, List.getD_cons_zero] at q0 q1 q2 q3 q4 q5
      have ez : ad.add 0 = ad := rfl
      simp only [ez] at q0 q1 q2 q3 q4 q5
      clear ez
      go_wp2_with fail
      have K := bounds_rangeOf.col A0 c0 l0 cc v0.f0 v0.f1 v0.f2 A5 a0.length c5 x HX.out _ (Kd.C_below HR.out (hB.alloc hB.size (.cells #[.int .i64 2, .int .i64 cc, .int .i64 v0.f0, .int .i64 v0.f1, .string v0.f2, .slice A5 a0.length c5] 38))) h0 h1
      rw [HD.out, HH.out] at K
      refine K.mono ?_
      rintro e w1 ⟨rfl, hb1⟩
      have C3 := blk_below (blk_alloc B3 _) hb1
      have C4 := blk_below (blk_alloc B4 _) hb1
      have C6 := blk_below (blk_alloc B6 _) hb1
      have hB1 := below_then (hB.alloc hB.size _) (hB.alloc hB.size _).size hb1
      have z0 := blk_cell C6 0
      have y0 := blk_frozen C6 0
      have z1 := blk_cell C6 1
      have y1 := blk_frozen C6 1
      have z2 := blk_cell C6 2
      have y2 := blk_frozen C6 2
      have z3 := blk_cell C6 3
      have y3 := blk_frozen C6 3
      have z4 := blk_cell C6 4
      have y4 := blk_frozen C6 4
      have z5 := blk_cell C6 5
      have y5 := blk_frozen C6 5
      have z6 := blk_cell C6 6
      have y6 := blk_frozen C6 6
      have z7 := blk_cell C6 7
      have y7 := blk_frozen C6 7
      go_wp2
      refine ⟨⟨1, rfl, by omega, ?_, ?_, ?_, ?_⟩, by simp [intOf]⟩
      · repeat (refine blk_far ?_ (by simp only [ne_eq]; omega) _)
        exact C3
      · repeat (refine blk_far ?_ (by simp only [ne_eq]; omega) _)
        exact C4
      · exact blk_set8 C6 0 1 2 3 4 5 6 7 _ _ _ _ _ _ _ _ (by simp only [List.setIfInBounds_toArray, List.set_cons_succ, List.set_cons_zero])
      · repeat (refine below_set ?_ (by first | exact Nat.le_refl _ | exact Nat.le_add_right _ _ | (show w.heap.size ≤ w.heap.size + 1 + 1; omega)))
        exact hB1
    · obtain ⟨ad, A5, c5, e5, q0, q1, q2, q3, q4, q5, _, _⟩ := at_T38 (Kd.C_below HE.out hB) 1 (by omega) (by omega)
      subst e5
      simp only [rd_T38, Int.toNat_one, Nat.one_mul, List.getD_cons_zero, List.getD_cons_succ] at q0 q1 q2 q3 q4 q5
      have ez : ad.add 6 = ⟨ad.block, ad.off + 6, none⟩ := by simp [Addr.add]
      simp only [ez] at q0 q1 q2 q3 q4 q5
      clear ez
      go_wp2_with fail
      have K := bounds_rangeOf.const A0 l0.length c0 ce v1.f0 v1.f1 v1.f2 A5 a1.length c5
      refine (K _).mono ?_
      rintro e w1 ⟨rfl, hb1⟩
      have C3 := blk_below (blk_alloc B3 _) hb1
      have C4 := blk_below (blk_alloc B4 _) hb1
      have C6 := blk_below (blk_alloc B6 _) hb1
      have hB1 := below_then (hB.alloc hB.size _) (hB.alloc hB.size _).size hb1
      have z8 := blk_cell C6 8
      have y8 := blk_frozen C6 8
      have z9 := blk_cell C6 9
      have y9 := blk_frozen C6 9
      have z10 := blk_cell C6 10
      have y10 := blk_frozen C6 10
      have z11 := blk_cell C6 11
      have y11 := blk_frozen C6 11
      have z12 := blk_cell C6 12
      have y12 := blk_frozen C6 12
      have z13 := blk_cell C6 13
      have y13 := blk_frozen C6 13
      have z14 := blk_cell C6 14
      have y14 := blk_frozen C6 14
      have z15 := blk_cell C6 15
      have y15 := blk_frozen C6 15
      go_wp2
      refine ⟨⟨2, rfl, by omega, ?_, ?_, ?_, ?_⟩, by simp [intOf]⟩
      · repeat (refine blk_far ?_ (by simp only [ne_eq]; omega) _)
        exact C3
      · repeat (refine blk_far ?_ (by simp only [ne_eq]; omega) _)
        exact C4
      · exact blk_set8 C6 8 9 10 11 12 13 14 15 _ _ _ _ _ _ _ _ (by simp only [List.setIfInBounds_toArray, List.set_cons_succ, List.set_cons_zero])
      · repeat (refine below_set ?_ (by first | exact Nat.le_refl _ | exact Nat.le_add_right _ _ | (show w.heap.size ≤ w.heap.size + 1 + 1; omega)))
        exact hB1
    · clear HE HX
      go_wp2_with fail
      have c0 : wr.cell? ⟨w.heap.size, 0, none⟩ = some (.int .i64 3) := (blk_cell B3 0).trans rfl
      have HB := Lib.hid hB
      have H3 := Lib.hid B3
      have H4 := Lib.hid B4
      have H6 := Lib.hid B6
      clear hB B3 B4 B6
      go_region_with (first | (go_at_call 155
                               refine (bounds_logic.made _).mono ?_
                               rintro e w1 ⟨g1, rfl, hm1, hg1, hb1⟩
                               have e0 : w1.heap[g1]? = some (.map bounds_logic.E 4) := hm1
                               have f1 := bounds_logic.miss g1 3 (.inl (by omega))
                               have g0 : w1.cell? ⟨w.heap.size, 0, none⟩ = some (.int .i64 3) := (blk_cell (blk_below (blk_drew H3.out) hb1) 0).trans rfl))
      all_goals
        have hB1 := below_then HB.out HB.out.size (Below.trans (below_drew1 (Below.refl _ wr)) hb1)
        have D6 := blk_alloc (blk_below (blk_drew H6.out) hb1) (.cells #[.bool false, .bool false, .int .i64 0, .int .i64 0, .string ⟨#[]⟩, .int .i64 0, .int .i64 0, .string ⟨#[]⟩] 161)
        have D3 := blk_alloc (blk_below (blk_drew H3.out) hb1) (.cells #[.bool false, .bool false, .int .i64 0, .int .i64 0, .string ⟨#[]⟩, .int .i64 0, .int .i64 0, .string ⟨#[]⟩] 161)
        have c3 : (w1.alloc (.cells #[.bool false, .bool false, .int .i64 0, .int .i64 0, .string ⟨#[]⟩, .int .i64 0, .int .i64 0, .string ⟨#[]⟩] 161)).cell? ⟨w.heap.size, 0, none⟩ = some (.int .i64 3) := (blk_cell D3 0).trans rfl
        have m0 : (w1.alloc (.cells #[.bool false, .bool false, .int .i64 0, .int .i64 0, .string ⟨#[]⟩, .int .i64 0, .int .i64 0, .string ⟨#[]⟩] 161)).cell? ⟨w.heap.size + 1 + 1, 0, none⟩ = some (.bool d0) := (blk_cell D6 0).trans rfl
        have m1 : (w1.alloc (.cells #[.bool false, .bool false, .int .i64 0, .int .i64 0, .string ⟨#[]⟩, .int .i64 0, .int .i64 0, .string ⟨#[]⟩] 161)).cell? ⟨w.heap.size + 1 + 1, 1, none⟩ = some (.bool true) := (blk_cell D6 1).trans rfl
        have m2 : (w1.alloc (.cells #[.bool false, .bool false, .int .i64 0, .int .i64 0, .string ⟨#[]⟩, .int .i64 0, .int .i64 0, .string ⟨#[]⟩] 161)).cell? ⟨w.heap.size + 1 + 1, 2, none⟩ = some (.int .i64 x.f2.f0) := (blk_cell D6 2).trans rfl
        have m3 : (w1.alloc (.cells #[.bool false, .bool false, .int .i64 0, .int .i64 0, .string ⟨#[]⟩, .int .i64 0, .int .i64 0, .string ⟨#[]⟩] 161)).cell? ⟨w.heap.size + 1 + 1, 3, none⟩ = some (.int .i64 x.f2.f1) := (blk_cell D6 3).trans rfl
        have m4 : (w1.alloc (.cells #[.bool false, .bool false, .int .i64 0, .int .i64 0, .string ⟨#[]⟩, .int .i64 0, .int .i64 0, .string ⟨#[]⟩] 161)).cell? ⟨w.heap.size + 1 + 1, 4, none⟩ = some (.string x.f2.f2) := (blk_cell D6 4).trans rfl
        have m5 : (w1.alloc (.cells #[.bool false, .bool false, .int .i64 0, .int .i64 0, .string ⟨#[]⟩, .int .i64 0, .int .i64 0, .string ⟨#[]⟩] 161)).cell? ⟨w.heap.size + 1 + 1, 5, none⟩ = some (.int .i64 x.f3.f0) := (blk_cell D6 5).trans rfl
        have m6 : (w1.alloc (.cells #[.bool false, .bool false, .int .i64 0, .int .i64 0, .string ⟨#[]⟩, .int .i64 0, .int .i64 0, .string ⟨#[]⟩] 161)).cell? ⟨w.heap.size + 1 + 1, 6, none⟩ = some (.int .i64 x.f3.f1) := (blk_cell D6 6).trans rfl
        have m7 : (w1.alloc (.cells #[.bool false, .bool false, .int .i64 0, .int .i64 0, .string ⟨#[]⟩, .int .i64 0, .int .i64 0, .string ⟨#[]⟩] 161)).cell? ⟨w.heap.size + 1 + 1, 7, none⟩ = some (.string x.f3.f2) := (blk_cell D6 7).trans rfl
        have m8 : (w1.alloc (.cells #[.bool false, .bool false, .int .i64 0, .int .i64 0, .string ⟨#[]⟩, .int .i64 0, .int .i64 0, .string ⟨#[]⟩] 161)).cell? ⟨w.heap.size + 1 + 1, 8, none⟩ = some (.bool false) := (blk_cell D6 8).trans rfl
        have m9 : (w1.alloc (.cells #[.bool false, .bool false, .int .i64 0, .int .i64 0, .string ⟨#[]⟩, .int .i64 0, .int .i64 0, .string ⟨#[]⟩] 161)).cell? ⟨w.heap.size + 1 + 1, 9, none⟩ = some (.bool true) := (blk_cell D6 9).trans rfl
        have m10 : (w1.alloc (.cells #[.bool false, .bool false, .int .i64 0, .int .i64 0, .string ⟨#[]⟩, .int .i64 0, .int .i64 0, .string ⟨#[]⟩] 161)).cell? ⟨w.heap.size + 1 + 1, 10, none⟩ = some (.int .i64 v1.f0) := (blk_cell D6 10).trans rfl
        have m11 : (w1.alloc (.cells #[.bool false, .bool false, .int .i64 0, .int .i64 0, .string ⟨#[]⟩, .int .i64 0, .int .i64 0, .string ⟨#[]⟩] 161)).cell? ⟨w.heap.size + 1 + 1, 11, none⟩ = some (.int .i64 v1.f1) := (blk_cell D6 11).trans rfl
        have m12 : (w1.alloc (.cells #[.bool false, .bool false, .int .i64 0, .int .i64 0, .string ⟨#[]⟩, .int .i64 0, .int .i64 0, .string ⟨#[]⟩] 161)).cell? ⟨w.heap.size + 1 + 1, 12, none⟩ = some (.string v1.f2) := (blk_cell D6 12).trans rfl
        have m13 : (w1.alloc (.cells #[.bool false, .bool false, .int .i64 0, .int .i64 0, .string ⟨#[]⟩, .int .i64 0, .int .i64 0, .string ⟨#[]⟩] 161)).cell? ⟨w.heap.size + 1 + 1, 13, none⟩ = some (.int .i64 v1.f0) := (blk_cell D6 13).trans rfl
        have m14 : (w1.alloc (.cells #[.bool false, .bool false, .int .i64 0, .int .i64 0, .string ⟨#[]⟩, .int .i64 0, .int .i64 0, .string ⟨#[]⟩] 161)).cell? ⟨w.heap.size + 1 + 1, 14, none⟩ = some (.int .i64 v1.f1) := (blk_cell D6 14).trans rfl
        have m15 : (w1.alloc (.cells #[.bool false, .bool false, .int .i64 0, .int .i64 0, .string ⟨#[]⟩, .int .i64 0, .int .i64 0, .string ⟨#[]⟩] 161)).cell? ⟨w.heap.size + 1 + 1, 15, none⟩ = some (.string v1.f2) := (blk_cell D6 15).trans rfl
        have D4 := blk_below (blk_drew H4.out) hb1
        have n0 : ∀ o, (w1.alloc o).cell? ⟨w.heap.size + 1, 0, none⟩ = some (.bool false) := fun o => (blk_cell (blk_alloc D4 o) 0).trans rfl
        have l0 : ∀ o, (w1.alloc o).frozen? ⟨w.heap.size + 1, 0, none⟩ = false := fun o => blk_frozen (blk_alloc D4 o) 0
        have n1 : ∀ o, (w1.alloc o).cell? ⟨w.heap.size + 1, 1, none⟩ = some (.bool false) := fun o => (blk_cell (blk_alloc D4 o) 1).trans rfl
        have l1 : ∀ o, (w1.alloc o).frozen? ⟨w.heap.size + 1, 1, none⟩ = false := fun o => blk_frozen (blk_alloc D4 o) 1
        have n2 : ∀ o, (w1.alloc o).cell? ⟨w.heap.size + 1, 2, none⟩ = some (.int .i64 0) := fun o => (blk_cell (blk_alloc D4 o) 2).trans rfl
        have l2 : ∀ o, (w1.alloc o).frozen? ⟨w.heap.size + 1, 2, none⟩ = false := fun o => blk_frozen (blk_alloc D4 o) 2
        have n3 : ∀ o, (w1.alloc o).cell? ⟨w.heap.size + 1, 3, none⟩ = some (.int .i64 0) := fun o => (blk_cell (blk_alloc D4 o) 3).trans rfl
        have l3 : ∀ o, (w1.alloc o).frozen? ⟨w.heap.size + 1, 3, none⟩ = false := fun o => blk_frozen (blk_alloc D4 o) 3
        have n4 : ∀ o, (w1.alloc o).cell? ⟨w.heap.size + 1, 4, none⟩ = some (.string ⟨#[]⟩) := fun o => (blk_cell (blk_alloc D4 o) 4).trans rfl
        have l4 : ∀ o, (w1.alloc o).frozen? ⟨w.heap.size + 1, 4, none⟩ = false := fun o => blk_frozen (blk_alloc D4 o) 4
        have n5 : ∀ o, (w1.alloc o).cell? ⟨w.heap.size + 1, 5, none⟩ = some (.int .i64 0) := fun o => (blk_cell (blk_alloc D4 o) 5).trans rfl
        have l5 : ∀ o, (w1.alloc o).frozen? ⟨w.heap.size + 1, 5, none⟩ = false := fun o => blk_frozen (blk_alloc D4 o) 5
        have n6 : ∀ o, (w1.alloc o).cell? ⟨w.heap.size + 1, 6, none⟩ = some (.int .i64 0) := fun o => (blk_cell (blk_alloc D4 o) 6).trans rfl
        have l6 : ∀ o, (w1.alloc o).frozen? ⟨w.heap.size + 1, 6, none⟩ = false := fun o => blk_frozen (blk_alloc D4 o) 6
        have n7 : ∀ o, (w1.alloc o).cell? ⟨w.heap.size + 1, 7, none⟩ = some (.string ⟨#[]⟩) := fun o => (blk_cell (blk_alloc D4 o) 7).trans rfl
        have l7 : ∀ o, (w1.alloc o).frozen? ⟨w.heap.size + 1, 7, none⟩ = false := fun o => blk_frozen (blk_alloc D4 o) 7
        replace D4 := Lib.hid D4
        replace D6 := Lib.hid D6
        replace D3 := Lib.hid D3
        clear e0 f1 hm1 c0 g0
        have hB2 := hB1.alloc hB1.size (.cells #[.bool false, .bool false, .int .i64 0, .int .i64 0, .string ⟨#[]⟩, .int .i64 0, .int .i64 0, .string ⟨#[]⟩] 161)
        have D11 := Lib.hid (blk_new w1 (.cells #[.bool false, .bool false, .int .i64 0, .int .i64 0, .string ⟨#[]⟩, .int .i64 0, .int .i64 0, .string ⟨#[]⟩] 161))
        go_wp2_with fail
        have D4a := Lib.hid (blk_alloc D4.out (.cells #[.bool false, .bool false, .int .i64 0, .int .i64 0, .string ⟨#[]⟩, .int .i64 0, .int .i64 0, .string ⟨#[]⟩] 161))
        generalize hW : w1.alloc (.cells #[.bool false, .bool false, .int .i64 0, .int .i64 0, .string ⟨#[]⟩, .int .i64 0, .int .i64 0, .string ⟨#[]⟩] 161) = W at *
        clear hW
        have keepS : ∀ w' : World, w'.heap[w.heap.size]? = some (.cells #[.int .i64 3, .int .i64 c, .int .i64 k, .int .i64 i, .string s, .slice A 2 m] 38 (0, 0)) → w'.heap[w.heap.size + 1 + 1]? = some (.cells #[.bool d0, .bool true, .int .i64 x.f2.f0, .int .i64 x.f2.f1, .string x.f2.f2, .int .i64 x.f3.f0, .int .i64 x.f3.f1, .string x.f3.f2, .bool false, .bool true, .int .i64 v1.f0, .int .i64 v1.f1, .string v1.f2, .int .i64 v1.f0, .int .i64 v1.f1, .string v1.f2] 195 (0, 0)) → (w'.cell? ⟨w.heap.size, 0, none⟩ = some (.int .i64 3) ∧ w'.cell? ⟨w.heap.size + 1 + 1, 0, none⟩ = some (.bool d0) ∧ w'.cell? ⟨w.heap.size + 1 + 1, 1, none⟩ = some (.bool true) ∧ w'.cell? ⟨w.heap.size + 1 + 1, 2, none⟩ = some (.int .i64 x.f2.f0) ∧ w'.cell? ⟨w.heap.size + 1 + 1, 3, none⟩ = some (.int .i64 x.f2.f1) ∧ w'.cell? ⟨w.heap.size + 1 + 1, 4, none⟩ = some (.string x.f2.f2) ∧ w'.cell? ⟨w.heap.size + 1 + 1, 5, none⟩ = some (.int .i64 x.f3.f0) ∧ w'.cell? ⟨w.heap.size + 1 + 1, 6, none⟩ = some (.int .i64 x.f3.f1) ∧ w'.cell? ⟨w.heap.size + 1 + 1, 7, none⟩ = some (.string x.f3.f2) ∧ w'.cell? ⟨w.heap.size + 1 + 1, 8, none⟩ = some (.bool false) ∧ w'.cell? ⟨w.heap.size + 1 + 1, 9, none⟩ = some (.bool true) ∧ w'.cell? ⟨w.heap.size + 1 + 1, 10, none⟩ = some (.int .i64 v1.f0) ∧ w'.cell? ⟨w.heap.size + 1 + 1, 11, none⟩ = some (.int .i64 v1.f1) ∧ w'.cell? ⟨w.heap.size + 1 + 1, 12, none⟩ = some (.string v1.f2) ∧ w'.cell? ⟨w.heap.size + 1 + 1, 13, none⟩ = some (.int .i64 v1.f0) ∧ w'.cell? ⟨w.heap.size + 1 + 1, 14, none⟩ = some (.int .i64 v1.f1) ∧ w'.cell? ⟨w.heap.size + 1 + 1, 15, none⟩ = some (.string v1.f2)) := fun w' b3 b6 => ⟨(blk_cell b3 0).trans rfl, (blk_cell b6 0).trans rfl, (blk_cell b6 1).trans rfl, (blk_cell b6 2).trans rfl, (blk_cell b6 3).trans rfl, (blk_cell b6 4).trans rfl, (blk_cell b6 5).trans rfl, (blk_cell b6 6).trans rfl, (blk_cell b6 7).trans rfl, (blk_cell b6 8).trans rfl, (blk_cell b6 9).trans rfl, (blk_cell b6 10).trans rfl, (blk_cell b6 11).trans rfl, (blk_cell b6 12).trans rfl, (blk_cell b6 13).trans rfl, (blk_cell b6 14).trans rfl, (blk_cell b6 15).trans rfl⟩
        have KS := Lib.hid keepS
        have lt6 : w.heap.size + 1 + 1 < w1.heap.size := blk_lt (blk_below (blk_drew H6.out) hb1)
        clear keepS
        have E3 := Lib.hid (blk_drew D3.out)
        have E6 := Lib.hid (blk_drew D6.out)
        go_region_held (fun w' => w'.cell? ⟨w.heap.size, 0, none⟩ = some (.int .i64 3) ∧ w'.cell? ⟨w.heap.size + 1 + 1, 0, none⟩ = some (.bool d0) ∧ w'.cell? ⟨w.heap.size + 1 + 1, 1, none⟩ = some (.bool true) ∧ w'.cell? ⟨w.heap.size + 1 + 1, 2, none⟩ = some (.int .i64 x.f2.f0) ∧ w'.cell? ⟨w.heap.size + 1 + 1, 3, none⟩ = some (.int .i64 x.f2.f1) ∧ w'.cell? ⟨w.heap.size + 1 + 1, 4, none⟩ = some (.string x.f2.f2) ∧ w'.cell? ⟨w.heap.size + 1 + 1, 5, none⟩ = some (.int .i64 x.f3.f0) ∧ w'.cell? ⟨w.heap.size + 1 + 1, 6, none⟩ = some (.int .i64 x.f3.f1) ∧ w'.cell? ⟨w.heap.size + 1 + 1, 7, none⟩ = some (.string x.f3.f2) ∧ w'.cell? ⟨w.heap.size + 1 + 1, 8, none⟩ = some (.bool false) ∧ w'.cell? ⟨w.heap.size + 1 + 1, 9, none⟩ = some (.bool true) ∧ w'.cell? ⟨w.heap.size + 1 + 1, 10, none⟩ = some (.int .i64 v1.f0) ∧ w'.cell? ⟨w.heap.size + 1 + 1, 11, none⟩ = some (.int .i64 v1.f1) ∧ w'.cell? ⟨w.heap.size + 1 + 1, 12, none⟩ = some (.string v1.f2) ∧ w'.cell? ⟨w.heap.size + 1 + 1, 13, none⟩ = some (.int .i64 v1.f0) ∧ w'.cell? ⟨w.heap.size + 1 + 1, 14, none⟩ = some (.int .i64 v1.f1) ∧ w'.cell? ⟨w.heap.size + 1 + 1, 15, none⟩ = some (.string v1.f2)) (first | (with_reducible exact KS.out _ E3.out E6.out) | (with_reducible exact KS.out _ J3.out J6.out) | (with_reducible exact KS.out _ L3.out L6.out) | (exact KS.out _ (blk_far8 _ L3.out (by omega)) (blk_far8 _ L6.out (by omega)))) (first
          | (go_at_call 156
             refine (bounds_strict.made _).mono ?_
             rintro e w2 ⟨g2, rfl, hm2, hg2, hb2⟩
             have e2 : w2.heap[g2]? = some (.map bounds_strict.E 6) := hm2
             have f2 := bounds_strict.at3 g2
             have J3 := Lib.hid (blk_below E3.out hb2)
             have J6 := Lib.hid (blk_below E6.out hb2)
             have J4 := Lib.hid (blk_below (blk_drew D4a.out) hb2)
             have J11 := Lib.hid (blk_below (blk_drew D11.out) hb2))
          | (go_at_call 185
             refine (bounds_span_equal.calls K _ _ _ _ _ _ _ _ _ _ _ _ _ _ _ _ _ _ _ _ _ _ _ _ _ HQ).mono ?_
             rintro e w3 ⟨rfl, hb3⟩
             have L3 := Lib.hid (blk_below J3.out hb3)
             have L6 := Lib.hid (blk_below J6.out hb3)
             have L4 := Lib.hid (blk_below J4.out hb3)
             have L11 := blk_below J11.out hb3
             have z0 := blk_cell L11 0
             have y0 := blk_frozen L11 0
             have z1 := blk_cell L11 1
             have y1 := blk_frozen L11 1
             have z2 := blk_cell L11 2
             have y2 := blk_frozen L11 2
             have z3 := blk_cell L11 3
             have y3 := blk_frozen L11 3
             have z4 := blk_cell L11 4
             have y4 := blk_frozen L11 4
             have z5 := blk_cell L11 5
             have y5 := blk_frozen L11 5
             have z6 := blk_cell L11 6
             have y6 := blk_frozen L11 6
             have z7 := blk_cell L11 7
             have y7 := blk_frozen L11 7))
        all_goals
          have hB3 := Lib.hid (below_then hB2 hB2.size (Below.trans (below_drew1 (Below.refl _ W)) (hb2.trans ⟨hb3.os, hb3.tape, hb3.output, hb3.size, fun i hi => hb3.block i (Nat.lt_of_lt_of_le hi hb2.size)⟩)))
          have M11 := blk_set8 (cs' := #[.bool false, .bool r1, .int .i64 r2, .int .i64 r3, .string r4, .int .i64 r5, .int .i64 r6, .string r7]) L11 0 1 2 3 4 5 6 7 (.bool false) (.bool r1) (.int .i64 r2) (.int .i64 r3) (.string r4) (.int .i64 r5) (.int .i64 r6) (.string r7) (by simp only [List.setIfInBounds_toArray, List.set_cons_succ, List.set_cons_zero])
          have M4 := blk_far8 w1.heap.size (u0 := .bool false) (u1 := .bool r1) (u2 := .int .i64 r2) (u3 := .int .i64 r3) (u4 := .string r4) (u5 := .int .i64 r5) (u6 := .int .i64 r6) (u7 := .string r7) L4.out (by omega)
          have M6 := blk_far8 w1.heap.size (u0 := .bool false) (u1 := .bool r1) (u2 := .int .i64 r2) (u3 := .int .i64 r3) (u4 := .string r4) (u5 := .int .i64 r5) (u6 := .int .i64 r6) (u7 := .string r7) L6.out (by omega)
          have hBV := Lib.hid (below_set8 hB3.out (show w.heap.size ≤ w1.heap.size by omega) (.bool false) (.bool r1) (.int .i64 r2) (.int .i64 r3) (.string r4) (.int .i64 r5) (.int .i64 r6) (.string r7))
          clear L11 z0 y0 z1 y1 z2 y2 z3 y3 z4 y4 z5 y5 z6 y6 z7 y7
          generalize (((((((w3.setCell ⟨w1.heap.size, 0, none⟩ (.bool false)).setCell ⟨w1.heap.size, 1, none⟩ (.bool r1)).setCell ⟨w1.heap.size, 2, none⟩ (.int .i64 r2)).setCell ⟨w1.heap.size, 3, none⟩ (.int .i64 r3)).setCell ⟨w1.heap.size, 4, none⟩ (.string r4)).setCell ⟨w1.heap.size, 5, none⟩ (.int .i64 r5)).setCell ⟨w1.heap.size, 6, none⟩ (.int .i64 r6)).setCell ⟨w1.heap.size, 7, none⟩ (.string r7) = V at *
          have m11c0 := blk_cell M11 0
          have m11f0 := blk_frozen M11 0
          have m11c1 := blk_cell M11 1
          have m11f1 := blk_frozen M11 1
          have m11c2 := blk_cell M11 2
          have m11f2 := blk_frozen M11 2
          have m11c3 := blk_cell M11 3
          have m11f3 := blk_frozen M11 3
          have m11c4 := blk_cell M11 4
          have m11f4 := blk_frozen M11 4
          have m11c5 := blk_cell M11 5
          have m11f5 := blk_frozen M11 5
          have m11c6 := blk_cell M11 6
          have m11f6 := blk_frozen M11 6
          have m11c7 := blk_cell M11 7
          have m11f7 := blk_frozen M11 7
          have m4c0 := blk_cell M4 0
          have m4f0 := blk_frozen M4 0
          have m4c1 := blk_cell M4 1
          have m4f1 := blk_frozen M4 1
          have m4c2 := blk_cell M4 2
          have m4f2 := blk_frozen M4 2
          have m4c3 := blk_cell M4 3
          have m4f3 := blk_frozen M4 3
          have m4c4 := blk_cell M4 4
          have m4f4 := blk_frozen M4 4
          have m4c5 := blk_cell M4 5
          have m4f5 := blk_frozen M4 5
          have m4c6 := blk_cell M4 6
          have m4f6 := blk_frozen M4 6
          have m4c7 := blk_cell M4 7
          have m4f7 := blk_frozen M4 7
          have m6c0 : V.cell? ⟨w.heap.size + 1 + 1, 0, none⟩ = some (.bool d0) := (blk_cell M6 0).trans rfl
          have m6c8 : V.cell? ⟨w.heap.size + 1 + 1, 8, none⟩ = some (.bool false) := (blk_cell M6 8).trans rfl
          replace M11 := Lib.hid M11
          replace M4 := Lib.hid M4
          replace M6 := Lib.hid M6
          clear L3 L6 L4 J3 J6 J4 J11 E3 E6 D3 D4 D6 D11 D4a KS m0 m1 m2 m3 m4 m5 m6 m7 m8 m9 m10 m11 m12 m13 m14 m15
          cases d0
          · go_wp2
            refine bodyPost_ret (v := .agg #[.bool false, .bool r1, .int .i64 r2, .int .i64 r3, .string r4, .int .i64 r5, .int .i64 r6, .string r7]) (by simp [results, Tryz.results128, go_sem, *]) rfl ⟨rfl, ?_⟩
            repeat (refine below_set ?_ (by first | exact Nat.le_refl _ | exact Nat.le_add_right _ _ | omega))
            exact hBV.out
          · go_wp2
            refine bodyPost_ret (v := .agg #[.bool true, .bool r1, .int .i64 r2, .int .i64 r3, .string r4, .int .i64 r5, .int .i64 r6, .string r7]) (by simp [results, Tryz.results128, go_sem, *]) rfl ⟨rfl, ?_⟩
            repeat (refine below_set ?_ (by first | exact Nat.le_refl _ | exact Nat.le_add_right _ _ | omega))
            exact hBV.out
end Go.Proofs.YteflfnjljjianaaGreatDoor.Qx
namespace Go.Proofs.YteflfnjljjianaaGreatDoor.Qx
open Go.RowKit Go.Proofs.YteflfnjljjianaaGreatDoorW.PrintWords Go.Proofs.YteflfnjljjianaaGreatDoorW.PrintLast Go.Proofs.YteflfnjljjianaaGreatDoorW.PrintMore
attribute [local go_sem] max2_int min2_int max_two min_two
set_option linter.unusedVariables false
set_option linter.unusedSimpArgs false
attribute [local go_sem high] eqA35
theorem bounds_span_yes.no (n0 : Bool) (k2 k3 : Int) (k4 : ByteArray) (k5 k6 : Int) (k7 : ByteArray) (w : World) :
    Calls Tryz.prog 129 #[.agg #[.bool n0, .bool false, .int .i64 k2, .int .i64 k3, .string k4, .int .i64 k5, .int .i64 k6, .string k7]] w fun e w' => e = .returned (.bool false) ∧ Below w.heap.size w w' := by
  have hu161 := Tryz.underlying161
  have hu35 := Tryz.underlying35
  go_enter Tryz.func129, Tryz.ntmps129
  go_wp2
  have BK := heap_alloc_new w (.cells #[.bool n0, .bool false, .int .i64 k2, .int .i64 k3, .string k4, .int .i64 k5, .int .i64 k6, .string k7] 161)
  have hB := Lib.hid ((Below.refl _ w).alloc (Nat.le_refl _) (.cells #[.bool n0, .bool false, .int .i64 k2, .int .i64 k3, .string k4, .int .i64 k5, .int .i64 k6, .string k7] 161))
  generalize w.alloc (.cells #[.bool n0, .bool false, .int .i64 k2, .int .i64 k3, .string k4, .int .i64 k5, .int .i64 k6, .string k7] 161) = W at *
  have k1_1 : W.cell? ⟨w.heap.size, 1, none⟩ = some (.bool false) := (blk_cell BK 1).trans rfl
  replace k1_1 := cell_regrown k1_1
  refine wp_region_quiet_below (by kernel_rfl) (by kernel_rfl) ?_
  repeat (go_big_quiet_step (fail))
  refine wpQuiet_nil ?_
  intro _ hw'
  obtain ⟨⟨dq, osq⟩, hw''⟩ := hw'
  subst hw''
  go_wp2
  go_ret
  exact ⟨rfl, below_then hB.out hB.out.size (below_regrown W dq osq)⟩
set_option maxRecDepth 100000 in
set_option maxHeartbeats 4000000 in
theorem bounds_span_yes.has (n0 : Bool) (k2 k3 : Int) (k4 : ByteArray) (k5 k6 : Int) (k7 : ByteArray) (w : World) :
    Calls Tryz.prog 129 #[.agg #[.bool n0, .bool true, .int .i64 k2, .int .i64 k3, .string k4, .int .i64 k5, .int .i64 k6, .string k7]] w fun e w' => e = .returned (.bool (k5 == 1 && (k6 == 1 && k7.toList.isEmpty))) ∧ Below w.heap.size w w' := by
  have hu161 := Tryz.underlying161
  have hu35 := Tryz.underlying35
  go_enter Tryz.func129, Tryz.ntmps129
  go_wp2
  have BK := heap_alloc_new w (.cells #[.bool n0, .bool true, .int .i64 k2, .int .i64 k3, .string k4, .int .i64 k5, .int .i64 k6, .string k7] 161)
  have hB := Lib.hid ((Below.refl _ w).alloc (Nat.le_refl _) (.cells #[.bool n0, .bool true, .int .i64 k2, .int .i64 k3, .string k4, .int .i64 k5, .int .i64 k6, .string k7] 161))
  generalize w.alloc (.cells #[.bool n0, .bool true, .int .i64 k2, .int .i64 k3, .string k4, .int .i64 k5, .int .i64 k6, .string k7] 161) = W at *
  have c0 : W.cell? ⟨w.heap.size, 0, none⟩ = some (.bool n0) := (blk_cell BK 0).trans rfl
  have c1 : W.cell? ⟨w.heap.size, 1, none⟩ = some (.bool true) := (blk_cell BK 1).trans rfl
  have c2 : W.cell? ⟨w.heap.size, 2, none⟩ = some (.int .i64 k2) := (blk_cell BK 2).trans rfl
  have c3 : W.cell? ⟨w.heap.size, 3, none⟩ = some (.int .i64 k3) := (blk_cell BK 3).trans rfl
  have c4 : W.cell? ⟨w.heap.size, 4, none⟩ = some (.string k4) := (blk_cell BK 4).trans rfl
  have c5 : W.cell? ⟨w.heap.size, 5, none⟩ = some (.int .i64 k5) := (blk_cell BK 5).trans rfl
  have c6 : W.cell? ⟨w.heap.size, 6, none⟩ = some (.int .i64 k6) := (blk_cell BK 6).trans rfl
  have c7 : W.cell? ⟨w.heap.size, 7, none⟩ = some (.string k7) := (blk_cell BK 7).trans rfl
  go_region_with (first
    | (go_at_call 157
       refine (bounds_bools.made _).mono ?_
       rintro e w1 ⟨g1, rfl, hm1, hg1, hb1⟩
       have e0 : w1.heap[g1]? = some (.map boolMapE 2) := hm1
       have f1 := lookF g1
       have t1 := lookT g1
       have B1 := blk_below (blk_drew BK) hb1
       have d0 : w1.cell? ⟨w.heap.size, 0, none⟩ = some (.bool n0) := (blk_cell B1 0).trans rfl
       have d1 : w1.cell? ⟨w.heap.size, 1, none⟩ = some (.bool true) := (blk_cell B1 1).trans rfl
       have d2 : w1.cell? ⟨w.heap.size, 2, none⟩ = some (.int .i64 k2) := (blk_cell B1 2).trans rfl
       have d3 : w1.cell? ⟨w.heap.size, 3, none⟩ = some (.int .i64 k3) := (blk_cell B1 3).trans rfl
       have d4 : w1.cell? ⟨w.heap.size, 4, none⟩ = some (.string k4) := (blk_cell B1 4).trans rfl
       have d5 : w1.cell? ⟨w.heap.size, 5, none⟩ = some (.int .i64 k5) := (blk_cell B1 5).trans rfl
       have d6 : w1.cell? ⟨w.heap.size, 6, none⟩ = some (.int .i64 k6) := (blk_cell B1 6).trans rfl
       have d7 : w1.cell? ⟨w.heap.size, 7, none⟩ = some (.string k7) := (blk_cell B1 7).trans rfl))
  all_goals
    go_wp2
    go_ret
    exact ⟨rfl, below_then hB.out hB.out.size (Below.trans (below_drew1 (Below.refl _ W)) hb1)⟩
def bounds_span_yes.f (n0 n1 : Bool) (k2 k3 : Int) (k4 : ByteArray) (k5 k6 : Int) (k7 : ByteArray) : Option Bool := some (n1 && (k5 == 1 && (k6 == 1 && k7.toList.isEmpty)))
theorem bounds_span_yes.calls (n0 n1 : Bool) (k2 k3 : Int) (k4 : ByteArray) (k5 k6 : Int) (k7 : ByteArray) (r : Bool) (w : World) (h : bounds_span_yes.f n0 n1 k2 k3 k4 k5 k6 k7 = some r) :
    Calls Tryz.prog 129 #[.agg #[.bool n0, .bool n1, .int .i64 k2, .int .i64 k3, .string k4, .int .i64 k5, .int .i64 k6, .string k7]] w fun e w' => e = .returned (.bool r) ∧ Below w.heap.size w w' := by
  obtain rfl := Option.some.inj h
  cases n1 with
  | false => exact bounds_span_yes.no _ _ _ _ _ _ _ w
  | true => exact bounds_span_yes.has _ _ _ _ _ _ _ w
end Go.Proofs.YteflfnjljjianaaGreatDoor.Qx
namespace Go.Proofs.YteflfnjljjianaaGreatDoor.Qx
open Go.RowKit Go.Proofs.YteflfnjljjianaaGreatDoorW.PrintWords Go.Proofs.YteflfnjljjianaaGreatDoorW.PrintLast Go.Proofs.YteflfnjljjianaaGreatDoorW.PrintMore
attribute [local go_sem] max2_int min2_int max_two min_two
set_option linter.unusedVariables false
set_option linter.unusedSimpArgs false
theorem bounds_truth.third {a b : Bool} {r : Bool × Bool × Int × Int × ByteArray × Int × Int × ByteArray} (h : bounds_truth.f a b false = some r) : r.1 = false := by
  unfold bounds_truth.f at h
  split at h <;> (obtain rfl := Option.some.inj h; rfl)
theorem bounds_span_equal.null {k : Nat} {n0 h0 : Bool} {a0 a1 : Int} {a2 : ByteArray} {b0 b1 : Int} {b2 : ByteArray} {n1 h1 : Bool} {c0 c1 : Int} {c2 : ByteArray} {d0 d1 : Int} {d2 : ByteArray} {r : Bool × Bool × Int × Int × ByteArray × Int × Int × ByteArray}
    (h : bounds_span_equal.f k n0 h0 a0 a1 a2 b0 b1 b2 n1 h1 c0 c1 c2 d0 d1 d2 = some r) : r.1 = false := by
  obtain ⟨p, hp, h⟩ := Option.bind_eq_some_iff.1 h
  split at h
  · exact bounds_truth.third h
  · obtain ⟨q, hq, h⟩ := Option.bind_eq_some_iff.1 h
    exact bounds_truth.third h
def bounds_rangeOf.f (k : Nat) (x : S82) (v : S35) : Option (Bool × Bool × Int × Int × ByteArray × Int × Int × ByteArray) :=
  if x.f1 = true then (bounds_span_equal.f k (decide (0 < x.f0)) true x.f2.f0 x.f2.f1 x.f2.f2 x.f3.f0 x.f3.f1 x.f3.f2 false true v.f0 v.f1 v.f2 v.f0 v.f1 v.f2).map fun r => (decide (0 < x.f0), r.2)
  else some (decide (0 < x.f0), false, 0, 0, ⟨#[]⟩, 0, 0, ⟨#[]⟩)
theorem bounds_rangeOf.calls (K : Nat) (A0 : Option Addr) (c0 : Nat) (l0 : List S82) (c k i : Int) (s : ByteArray) (A : Option Addr) (m : Nat) (cc ce : Int) (v0 v1 : S35) (a0 a1 : List S38) (w : World) (hr : Kd.C k82 w A0 l0.length l0)
    (he : Kd.C k38 w A 2 [⟨2, cc, v0, a0⟩, ⟨1, ce, v1, a1⟩]) (h0 : 0 ≤ cc) (h1 : cc < (l0.length : Int)) (r0 r1 : Bool) (r2 r3 : Int) (r4 : ByteArray) (r5 r6 : Int) (r7 : ByteArray)
    (h : bounds_rangeOf.f K (rd_T82 l0 cc) v1 = some (r0, r1, r2, r3, r4, r5, r6, r7)) :
    Calls Tryz.prog 128 #[.slice A0 l0.length c0, .agg #[.int .i64 3, .int .i64 c, .int .i64 k, .int .i64 i, .string s, .slice A 2 m]] w fun e w' => e = .returned (.agg #[.bool r0, .bool r1, .int .i64 r2, .int .i64 r3, .string r4, .int .i64 r5, .int .i64 r6, .string r7]) ∧ Below w.heap.size w w' := by
  unfold bounds_rangeOf.f at h
  split at h
  · obtain ⟨q, hq, hqr⟩ := Option.map_eq_some_iff.1 h
    have hn := bounds_span_equal.null hq
    obtain ⟨q0, q1, q2, q3, q4, q5, q6, q7⟩ := q
    cases hn
    injection hqr with e0 e1
    cases e1
    subst e0
    exact bounds_rangeOf.eqyes A0 c0 l0 c k i s A m cc ce v0 v1 a0 a1 _ rfl _ rfl w hr he h0 h1 (by assumption) K _ _ _ _ _ _ _ hq
  · injection h with h
    cases h
    exact bounds_rangeOf.eqno A0 c0 l0 c k i s A m cc ce v0 v1 a0 a1 _ rfl _ rfl w hr he h0 h1 (by simp_all)
def bounds_Never.f (K : Nat) (x : S82) (v : S35) : Option Bool := (bounds_rangeOf.f K x v).bind fun r => (bounds_span_yes.f r.1 r.2.1 r.2.2.1 r.2.2.2.1 r.2.2.2.2.1 r.2.2.2.2.2.1 r.2.2.2.2.2.2.1 r.2.2.2.2.2.2.2).map fun y => !y
set_option maxRecDepth 100000 in
set_option maxHeartbeats 8000000 in
theorem bounds_Never.calls (K : Nat) (A0 : Option Addr) (c0 : Nat) (l0 : List S82) (c k i : Int) (s : ByteArray) (A : Option Addr) (m : Nat) (cc ce : Int) (v0 v1 : S35) (a0 a1 : List S38) (P : Nat → Prop) (w : World) (hr : Kd.C k82 w A0 l0.length l0)
    (he : Kd.V k38 38 w w.heap.size P (.slice A 2 m) [⟨2, cc, v0, a0⟩, ⟨1, ce, v1, a1⟩]) (h0 : 0 ≤ cc) (h1 : cc < (l0.length : Int)) (y : Bool) (h : bounds_Never.f K (rd_T82 l0 cc) v1 = some y) :
    Calls Tryz.prog 97 #[.slice A0 l0.length c0, .agg #[.int .i64 3, .int .i64 c, .int .i64 k, .int .i64 i, .string s, .slice A 2 m]] w fun e w' => e = .returned (.bool y) ∧ Below w.heap.size w w' := by
  obtain ⟨q, hq, h⟩ := Option.bind_eq_some_iff.1 h
  obtain ⟨r0, r1, r2, r3, r4, r5, r6, r7⟩ := q
  obtain ⟨u, hu, rfl⟩ := Option.map_eq_some_iff.1 h
  have hu38 := Tryz.underlying38
  have hu36 := Tryz.underlying36
  have HR := Lib.hid hr
  have HE := Lib.hid he
  have HQ := Lib.hid hq
  have HU := Lib.hid hu
  clear hr he hq hu h
  go_enter Tryz.func97, Tryz.ntmps97
  go_wp2_with fail
  have hB := (Below.refl w.heap.size w).alloc (Nat.le_refl _) (.cells #[.int .i64 3, .int .i64 c, .int .i64 k, .int .i64 i, .string s, .slice A 2 m] 38)
  have hV : Kd.V k38 38 (w.alloc (.cells #[.int .i64 3, .int .i64 c, .int .i64 k, .int .i64 i, .string s, .slice A 2 m] 38)) (w.alloc (.cells #[.int .i64 3, .int .i64 c, .int .i64 k, .int .i64 i, .string s, .slice A 2 m] 38)).heap.size P (.slice A ([⟨2, cc, v0, a0⟩, ⟨1, ce, v1, a1⟩] : List S38).length m) [⟨2, cc, v0, a0⟩, ⟨1, ce, v1, a1⟩] := Kd.V_map HE.out (fun _ hf => Kd.F_alloc hf _)
  refine (expr_Conjuncts.calls 1 3 c k i s P A m [⟨2, cc, v0, a0⟩, ⟨1, ce, v1, a1⟩] [⟨3, c, ⟨k, i, s⟩, [⟨2, cc, v0, a0⟩, ⟨1, ce, v1, a1⟩]⟩] _ hV (by simp [expr_Conjuncts.f])).mono ?_
  rintro e w1 ⟨v, rfl, hN, hb⟩
  replace hB := below_then hB hB.size hb
  obtain ⟨A1, c1, rfl⟩ := Kd.V_slice (Kd.N_V (base' := 0) hN)
  have hC := (Kd.V_reads' (Kd.N_V (base' := 0) hN)).2.2
  obtain ⟨ad, A5, c5, e5, q0, q1, q2, q3, q4, q5, _, q7⟩ := at_T38 hC 0 (by omega) (by simp)
  subst e5
  simp only [rd_T38, Int.toNat_zero, Nat.zero_mul, List.getD_cons_zero, List.length_cons, List.length_nil] at q0 q1 q2 q3 q4 q5 q7
  have ez : ad.add 0 = ad := rfl
  simp only [ez] at q0 q1 q2 q3 q4 q5
  clear ez hN hC hV hb
  have HRr := Lib.hid (Kd.C_below HR.out hB)
  have Q7 := Lib.hid q7
  have HB := Lib.hid hB
  clear q7 hB HR HE
  go_wp2
  go_loopw [10] (fun s10 wr => (s10 = .int .i64 0 ∧ wr = w1) ∨ (s10 = .int .i64 1 ∧ (!u) = false ∧ Below w.heap.size w wr)) (fun s10 _ => 1 - (intOf s10).toNat)
  case atStart => exact .inl ⟨rfl, rfl⟩
  case round =>
    rcases hrel with ⟨rfl, rfl⟩ | ⟨rfl, hu0, hB⟩
    · have hBa := (Below.refl wr.heap.size wr).alloc (Nat.le_refl _) (.cells #[.int .i64 3, .int .i64 c, .int .i64 k, .int .i64 i, .string s, .slice A5 2 c5] 38)
      have hBw := HB.out.alloc HB.out.size (.cells #[.int .i64 3, .int .i64 c, .int .i64 k, .int .i64 i, .string s, .slice A5 2 c5] 38)
      have HR2 := Lib.hid (Kd.C_below HRr.out hBa)
      have HE2 := Lib.hid (Kd.C_below Q7.out hBa)
      go_wp2_with (go_at_call 128; refine (bounds_rangeOf.calls K A0 c0 l0 c k i s A5 c5 cc ce v0 v1 a0 a1 _ HR2.out HE2.out h0 h1 r0 r1 r2 r3 r4 r5 r6 r7 HQ.out).mono ?_; rintro e w2 ⟨rfl, hb1⟩)
      have hB2 := below_then hBw hBw.size hb1
      refine (bounds_span_yes.calls r0 r1 r2 r3 r4 r5 r6 r7 u _ HU.out).mono ?_
      rintro e w3 ⟨rfl, hb2⟩
      have hB3 := below_then hB2 hB2.size hb2
      cases u with
      | false =>
        go_wp2
        go_ret
        exact ⟨rfl, hB3⟩
      | true =>
        go_wp2
        refine ⟨.inr ⟨rfl, rfl, hB3⟩, by simp [intOf]⟩
    · go_wp2
      go_ret
      refine ⟨?_, hB⟩
      rw [hu0]
      rfl
end Go.Proofs.YteflfnjljjianaaGreatDoor.Qx
namespace Go.Proofs.YteflfnjljjianaaGreatDoor.Qx
open Go.RowKit Go.Proofs.YteflfnjljjianaaGreatDoorW.PrintWords Go.Proofs.YteflfnjljjianaaGreatDoorW.PrintLast Go.Proofs.YteflfnjljjianaaGreatDoorW.PrintMore
attribute [local go_sem] max2_int min2_int max_two min_two
set_option linter.unusedVariables false
set_option linter.unusedSimpArgs false
def chapmanlaw32_equation.f (a0 : Int) (a1_0 : Int) (a1_1 : Int) (a1_2 : ByteArray) : Option (Int × Int × Int × Int × ByteArray × (List (S38))) := some (3, 0, 0, 0, (⟨#[]⟩ : ByteArray), (([(⟨2, a0, (⟨0, 0, (⟨#[]⟩ : ByteArray)⟩ : S35), ([] : List (S38))⟩ : S38), (⟨1, 0, (⟨a1_0, a1_1, a1_2⟩ : S35), ([] : List (S38))⟩ : S38)] : List (S38))))
set_option maxHeartbeats 8000000 in
set_option maxRecDepth 100000 in
theorem chapmanlaw32_equation.calls (a0 : Int) (a1_0 : Int) (a1_1 : Int) (a1_2 : ByteArray) (r1 : Int) (r2 : Int) (r3 : Int) (r4 : Int) (r5 : ByteArray) (r6 : List (S38)) (w : World) (h : chapmanlaw32_equation.f a0 a1_0 a1_1 a1_2 = some (r1, r2, r3, r4, r5, r6)) :
    Calls Tryz.prog 30 #[.int .i64 a0, .agg #[.int .i64 a1_0, .int .i64 a1_1, .string a1_2]] w fun e w' => ∃ v5_ : Value, e = .returned (.agg #[.int .i64 r1, .int .i64 r2, .int .i64 r3, .int .i64 r4, .string r5, v5_]) ∧ Kd.R k38 38 w' w.heap.size (fun _ => True) v5_ r6 ∧ Below w.heap.size w w' := by
  have hu35 := Tryz.underlying35
  have hu38 := Tryz.underlying38
  have HB := Aside0.mk (Below.refl w.heap.size w)
  have H : (some (3, 0, 0, 0, (⟨#[]⟩ : ByteArray), (([(⟨2, a0, (⟨0, 0, (⟨#[]⟩ : ByteArray)⟩ : S35), ([] : List (S38))⟩ : S38), (⟨1, 0, (⟨a1_0, a1_1, a1_2⟩ : S35), ([] : List (S38))⟩ : S38)] : List (S38))))) = some (r1, r2, r3, r4, r5, r6) := h
  clear h
  obtain ⟨y103, hy103⟩ : ∃ y_ : List (S38), y_ = (([(⟨2, a0, (⟨0, 0, (⟨#[]⟩ : ByteArray)⟩ : S35), ([] : List (S38))⟩ : S38), (⟨1, 0, (⟨a1_0, a1_1, a1_2⟩ : S35), ([] : List (S38))⟩ : S38)] : List (S38))) := ⟨_, rfl⟩
  replace H : (some (3, 0, 0, 0, (⟨#[]⟩ : ByteArray), y103)) = some (r1, r2, r3, r4, r5, r6) := by first | (rw [hy103]; with_reducible exact H) | (have H2_ := (Option.bind_some _ _).symm.trans H; rw [hy103]; with_reducible exact H2_) | (have H2_ := (Option.bind_some _ _).symm.trans H; with_reducible exact H2_) | with_reducible exact H | (rw [hy103]; exact H) | exact H
  have Ny103 := Aside0.mk hy103
  clear hy103
  simp only [Option.some.injEq, Prod.mk.injEq] at H
  obtain ⟨rfl, rfl, rfl, rfl, rfl, rfl⟩ := H
  go_enter Tryz.func30, Tryz.ntmps30
  go_wp2_with (first | ((with_reducible refine gate_dst (N := 3) rfl ?_); refine box_event ?hg (N := 3) ?hd (cs := #[.int .i64 a1_0, .int .i64 a1_1, .string a1_2]) (t := 35) ?hr ?_; (case hd => rfl); (case hg => rfl); (case hr => first | (go_simp; done) | (go_simp; rfl)); intro gb101 hg w3 hbox hb; have n0_ := Aside0.mk (below_step (by repeat (first | (with_reducible first | exact HB.out | apply below_alloc | apply pw_below_drewN | apply below_drew1) | exact HB.out)) hb); have n1_ := Aside0.mk (hbox); have n2_ := Aside0.mk ((by rw [hg]; exact (below_size (by repeat (first | (with_reducible first | exact HB.out | apply below_alloc | apply pw_below_drewN | apply below_drew1) | exact HB.out))) : w.heap.size ≤ gb101)); have n3_ := Aside0.mk ((by rw [hg]; exact (below_size (by repeat (first | (with_reducible first | exact HB.out | apply below_alloc | apply pw_below_drewN | apply below_drew1) | exact HB.out))) : w.heap.size ≤ gb101)); clear HB; have HB := n0_; have BK101 := n1_; have GW101 := n2_; have GE101 := n3_; clear n0_ n1_ n2_ n3_; clear hb hbox hg) | ((with_reducible refine gate_dst (N := 4) rfl ?_); refine box_event ?hg (N := 4) ?hd (cs := #[.int .i64 0, .int .i64 0, .int .i64 0, .int .i64 0, .string (⟨#[]⟩ : ByteArray), .slice none 0 0]) (t := 38) ?hr ?_; (case hd => rfl); (case hg => rfl); (case hr => first | (go_simp; done) | (go_simp; rfl)); intro gb102 hg w4 hbox hb; have n0_ := Aside0.mk (blk_below (g := gb101) (o := .cells #[.int .i64 a1_0, .int .i64 a1_1, .string a1_2] 35 (0, 0)) (by (with_reducible repeat (first | refine blk_drewN ?_ _ | refine blk_drew ?_ | refine blk_alloc ?_ _)); exact BK101.out) hb); have n1_ := Aside0.mk (below_step (by repeat (first | (with_reducible first | exact HB.out | apply below_alloc | apply pw_below_drewN | apply below_drew1 | refine below_set ?_ GE101.out) | exact HB.out)) hb); have n2_ := Aside0.mk (hbox); have n3_ := Aside0.mk ((by rw [hg]; exact (below_size (by repeat (first | (with_reducible first | exact HB.out | apply below_alloc | apply pw_below_drewN | apply below_drew1 | refine below_set ?_ GE101.out) | exact HB.out))) : w.heap.size ≤ gb102)); have n4_ := Aside0.mk ((by rw [hg]; exact (below_size (by repeat (first | (with_reducible first | exact HB.out | apply below_alloc | apply pw_below_drewN | apply below_drew1 | refine below_set ?_ GE101.out) | exact HB.out))) : w.heap.size ≤ gb102)); have n5_ := Aside0.mk ((by rw [hg]; exact Nat.ne_of_lt (blk_lt (g := gb101) (o := .cells #[.int .i64 a1_0, .int .i64 a1_1, .string a1_2] 35 (0, 0)) (by (with_reducible repeat (first | refine blk_drewN ?_ _ | refine blk_drew ?_ | refine blk_alloc ?_ _)); exact BK101.out)) : gb101 ≠ gb102)); have n6_ := Aside0.mk ((by rw [hg]; exact Nat.ne_of_gt (blk_lt (g := gb101) (o := .cells #[.int .i64 a1_0, .int .i64 a1_1, .string a1_2] 35 (0, 0)) (by (with_reducible repeat (first | refine blk_drewN ?_ _ | refine blk_drew ?_ | refine blk_alloc ?_ _)); exact BK101.out)) : gb102 ≠ gb101)); clear BK101; clear HB; have BK101 := n0_; have HB := n1_; have BK102 := n2_; have GW102 := n3_; have GE102 := n4_; have NB101_102 := n5_; have NB102_101 := n6_; clear n0_ n1_ n2_ n3_ n4_ n5_ n6_; clear hb hbox hg; have hnb5 := NB101_102.out; have hnc5 := NB102_101.out; have hcz6_0 : w4.cell? ⟨gb101, 0, none⟩ = some (.int .i64 a1_0) := (blk_cell BK101.out 0).trans rfl; have hcz6_1 : w4.cell? ⟨gb101, 1, none⟩ = some (.int .i64 a1_1) := (blk_cell BK101.out 1).trans rfl; have hcz6_2 : w4.cell? ⟨gb101, 2, none⟩ = some (.string a1_2) := (blk_cell BK101.out 2).trans rfl; have hfz6_0 := blk_frozen BK101.out 0; have hfz6_1 := blk_frozen BK101.out 1; have hfz6_2 := blk_frozen BK101.out 2) | ((with_reducible refine gate_dst (N := 9) rfl ?_); refine Kd.R_lit k38 _ 38 ?hg (N := 9) ?hd (xs := ([(⟨2, a0, (⟨0, 0, (⟨#[]⟩ : ByteArray)⟩ : S35), ([] : List (S38))⟩ : S38), (⟨1, 0, (⟨a1_0, a1_1, a1_2⟩ : S35), ([] : List (S38))⟩ : S38)] : List (S38))) (inner := [.int .i64 2, .int .i64 a0, .int .i64 0, .int .i64 0, .string (⟨#[]⟩ : ByteArray), .slice none 0 0, .int .i64 1, .int .i64 0, .int .i64 a1_0, .int .i64 a1_1, .string a1_2, .slice none 0 0]) (ok := fun _ => True) (okp := fun _ => True) ?hr ?hp (fun _ hk => hk) trivial (Below.refl _ _) (Nat.le_refl _) (by simp) ?_; (case hd => rfl); (case hg => rfl); (case hr => first | (go_simp; done) | (go_simp; rfl)); (case hp => exact (Reps.c6 (show Kd.M k38 _ _ _ (⟨2, a0, (⟨0, 0, (⟨#[]⟩ : ByteArray)⟩ : S35), ([] : List (S38))⟩ : S38) [.int .i64 2, .int .i64 a0, .int .i64 0, .int .i64 0, .string (⟨#[]⟩ : ByteArray), .slice none 0 0] from (k38_mkM _ _ _ (⟨2, a0, (⟨0, 0, (⟨#[]⟩ : ByteArray)⟩ : S35), ([] : List (S38))⟩ : S38) (Kd.R_nil _ _ _ _ _))) (Reps.c6 (show Kd.M k38 _ _ _ (⟨1, 0, (⟨a1_0, a1_1, a1_2⟩ : S35), ([] : List (S38))⟩ : S38) [.int .i64 1, .int .i64 0, .int .i64 a1_0, .int .i64 a1_1, .string a1_2, .slice none 0 0] from (k38_mkM _ _ _ (⟨1, 0, (⟨a1_0, a1_1, a1_2⟩ : S35), ([] : List (S38))⟩ : S38) (Kd.R_nil _ _ _ _ _))) (Reps.none _ _)))); intro v104 w7 ho8 hb hg_ hnew_; clear hg_ hnew_; (first | rw [← Ny103.out] at ho8 | (simp only [Int.reduceToNat] at ho8; rw [← Ny103.out] at ho8)); have n0_ := Aside0.mk (Kd.R_lower (Kd.R_newB ho8 (g := gb102) (o := .cells #[.int .i64 0, .int .i64 0, .int .i64 0, .int .i64 0, .string (⟨#[]⟩ : ByteArray), .slice none 0 0] 38 (0, 0)) (by (with_reducible repeat (first | refine blk_drewN ?_ _ | refine blk_drew ?_ | refine blk_alloc ?_ _)); exact BK102.out)) (below_size (by repeat (first | (with_reducible first | exact HB.out | apply below_alloc | apply pw_below_drewN | apply below_drew1 | refine below_set ?_ GE101.out | refine below_set ?_ GE102.out) | exact HB.out)))); have n1_ := Aside0.mk (blk_below (g := gb101) (o := .cells #[.int .i64 a1_0, .int .i64 a1_1, .string a1_2] 35 (0, 0)) (by (with_reducible repeat (first | refine blk_drewN ?_ _ | refine blk_drew ?_ | refine blk_alloc ?_ _)); exact BK101.out) hb); have n2_ := Aside0.mk (blk_below (g := gb102) (o := .cells #[.int .i64 0, .int .i64 0, .int .i64 0, .int .i64 0, .string (⟨#[]⟩ : ByteArray), .slice none 0 0] 38 (0, 0)) (by (with_reducible repeat (first | refine blk_drewN ?_ _ | refine blk_drew ?_ | refine blk_alloc ?_ _)); exact BK102.out) hb); have n3_ := Aside0.mk (below_step (by repeat (first | (with_reducible first | exact HB.out | apply below_alloc | apply pw_below_drewN | apply below_drew1 | refine below_set ?_ GE101.out | refine below_set ?_ GE102.out) | exact HB.out)) hb); clear BK101; clear BK102; clear HB; have HO105 := n0_; have BK101 := n1_; have BK102 := n2_; have HB := n3_; clear n0_ n1_ n2_ n3_; clear hb ho8; obtain ⟨Ao9, co9, eo9⟩ := Kd.R_slice HO105.out; subst eo9; have hcz10_0 : w7.cell? ⟨gb102, 0, none⟩ = some (.int .i64 0) := (blk_cell BK102.out 0).trans rfl; have hcz10_1 : w7.cell? ⟨gb102, 1, none⟩ = some (.int .i64 0) := (blk_cell BK102.out 1).trans rfl; have hcz10_2 : w7.cell? ⟨gb102, 2, none⟩ = some (.int .i64 0) := (blk_cell BK102.out 2).trans rfl; have hcz10_3 : w7.cell? ⟨gb102, 3, none⟩ = some (.int .i64 0) := (blk_cell BK102.out 3).trans rfl; have hcz10_4 : w7.cell? ⟨gb102, 4, none⟩ = some (.string (⟨#[]⟩ : ByteArray)) := (blk_cell BK102.out 4).trans rfl; have hcz10_5 : w7.cell? ⟨gb102, 5, none⟩ = some (.slice none 0 0) := (blk_cell BK102.out 5).trans rfl; have hfz10_0 := blk_frozen BK102.out 0; have hfz10_1 := blk_frozen BK102.out 1; have hfz10_2 := blk_frozen BK102.out 2; have hfz10_3 := blk_frozen BK102.out 3; have hfz10_4 := blk_frozen BK102.out 4; have hfz10_5 := blk_frozen BK102.out 5))
  refine bodyPost_ret (results_cell_row rfl _ _ gb102 38 #[.int .i64 3, .int .i64 0, .int .i64 0, .int .i64 0, .string (⟨#[]⟩ : ByteArray), .slice Ao9 y103.length co9] (0, 0) _ rfl (by (with_reducible repeat (first | refine blk_drewN ?_ _ | refine blk_drew ?_ | refine blk_alloc ?_ _)); refine blk_put (cs := #[.int .i64 3, .int .i64 0, .int .i64 0, .int .i64 0, .string (⟨#[]⟩ : ByteArray), .slice none 0 0]) ?_ 5 _ rfl; (with_reducible repeat (first | refine blk_drewN ?_ _ | refine blk_drew ?_ | refine blk_alloc ?_ _)); refine blk_put (cs := #[.int .i64 3, .int .i64 0, .int .i64 0, .int .i64 0, .string (⟨#[]⟩ : ByteArray), .slice none 0 0]) ?_ 4 _ rfl; (with_reducible repeat (first | refine blk_drewN ?_ _ | refine blk_drew ?_ | refine blk_alloc ?_ _)); refine blk_put (cs := #[.int .i64 3, .int .i64 0, .int .i64 0, .int .i64 0, .string (⟨#[]⟩ : ByteArray), .slice none 0 0]) ?_ 3 _ rfl; (with_reducible repeat (first | refine blk_drewN ?_ _ | refine blk_drew ?_ | refine blk_alloc ?_ _)); refine blk_put (cs := #[.int .i64 3, .int .i64 0, .int .i64 0, .int .i64 0, .string (⟨#[]⟩ : ByteArray), .slice none 0 0]) ?_ 2 _ rfl; (with_reducible repeat (first | refine blk_drewN ?_ _ | refine blk_drew ?_ | refine blk_alloc ?_ _)); refine blk_put (cs := #[.int .i64 3, .int .i64 0, .int .i64 0, .int .i64 0, .string (⟨#[]⟩ : ByteArray), .slice none 0 0]) ?_ 1 _ rfl; (with_reducible repeat (first | refine blk_drewN ?_ _ | refine blk_drew ?_ | refine blk_alloc ?_ _)); refine blk_put (cs := #[.int .i64 0, .int .i64 0, .int .i64 0, .int .i64 0, .string (⟨#[]⟩ : ByteArray), .slice none 0 0]) ?_ 0 _ rfl; (with_reducible repeat (first | refine blk_drewN ?_ _ | refine blk_drew ?_ | refine blk_alloc ?_ _)); exact BK102.out) Tryz.underlying38 rfl (by kernel_rfl)) rfl ?_
  exact ⟨_, by first | rfl | (simp [errW_none, errW_some] <;> rfl) | (simp [*, errW_none, errW_some] <;> rfl), by (with_reducible repeat (first | apply Kd.R_alloc | apply Kd.R_drewN | apply Kd.R_drew)); exact Kd.R_mono (Kd.R_far (p := ⟨gb102, 5, none⟩) (Kd.R_far (p := ⟨gb102, 4, none⟩) (Kd.R_far (p := ⟨gb102, 3, none⟩) (Kd.R_far (p := ⟨gb102, 2, none⟩) (Kd.R_far (p := ⟨gb102, 1, none⟩) (Kd.R_far (p := ⟨gb102, 0, none⟩) (Kd.R_mono HO105.out (fun k_ hk => (⟨hk, hk.2⟩ : _ ∧ k_ ≠ gb102))) (fun _ hk => hk.2) (.int .i64 3)) (fun _ hk => hk.2) (.int .i64 0)) (fun _ hk => hk.2) (.int .i64 0)) (fun _ hk => hk.2) (.int .i64 0)) (fun _ hk => hk.2) (.string (⟨#[]⟩ : ByteArray))) (fun _ hk => hk.2) (.slice Ao9 y103.length co9)) (fun _ hk => trivial), by repeat (first | (with_reducible first | exact HB.out | apply below_alloc | apply pw_below_drewN | apply below_drew1 | refine below_set ?_ GE101.out | refine below_set ?_ GE102.out) | exact HB.out)⟩
end Go.Proofs.YteflfnjljjianaaGreatDoor.Qx
namespace Go.Proofs.YteflfnjljjianaaGreatDoor.Qx
open Go.RowKit Go.Proofs.YteflfnjljjianaaGreatDoorW.PrintWords Go.Proofs.YteflfnjljjianaaGreatDoorW.PrintLast Go.Proofs.YteflfnjljjianaaGreatDoorW.PrintMore
attribute [local go_sem] max2_int min2_int max_two min_two
set_option linter.unusedVariables false
set_option linter.unusedSimpArgs false
def chapmanref06_Null.f  : Option (Int × Int × ByteArray) := some (0, 0, (⟨#[]⟩ : ByteArray))
set_option maxHeartbeats 8000000 in
set_option maxRecDepth 100000 in
theorem chapmanref06_Null.calls  (r1 : Int) (r2 : Int) (r3 : ByteArray) (w : World) (h : chapmanref06_Null.f  = some (r1, r2, r3)) :
    Calls Tryz.prog 15 #[] w fun e w' => e = .returned (.agg #[.int .i64 r1, .int .i64 r2, .string r3]) ∧ Below w.heap.size w w' := by
  have hu35 := Tryz.underlying35
  have HB := Aside0.mk (Below.refl w.heap.size w)
  have H : (some (0, 0, (⟨#[]⟩ : ByteArray))) = some (r1, r2, r3) := h
  clear h
  simp only [Option.some.injEq, Prod.mk.injEq] at H
  obtain ⟨rfl, rfl, rfl⟩ := H
  go_enter Tryz.func15, Tryz.ntmps15
  go_wp2_with (first | ((with_reducible refine gate_dst (N := 0) rfl ?_); refine box_event ?hg (N := 0) ?hd (cs := #[.int .i64 0, .int .i64 0, .string (⟨#[]⟩ : ByteArray)]) (t := 35) ?hr ?_; (case hd => rfl); (case hg => rfl); (case hr => first | (go_simp; done) | (go_simp; rfl)); intro gb101 hg w1 hbox hb; have n0_ := Aside0.mk (below_step (by repeat (first | (with_reducible first | exact HB.out | apply below_alloc | apply pw_below_drewN | apply below_drew1) | exact HB.out)) hb); have n1_ := Aside0.mk (hbox); have n2_ := Aside0.mk ((by rw [hg]; exact (below_size (by repeat (first | (with_reducible first | exact HB.out | apply below_alloc | apply pw_below_drewN | apply below_drew1) | exact HB.out))) : w.heap.size ≤ gb101)); have n3_ := Aside0.mk ((by rw [hg]; exact (below_size (by repeat (first | (with_reducible first | exact HB.out | apply below_alloc | apply pw_below_drewN | apply below_drew1) | exact HB.out))) : w.heap.size ≤ gb101)); clear HB; have HB := n0_; have BK101 := n1_; have GW101 := n2_; have GE101 := n3_; clear n0_ n1_ n2_ n3_; clear hb hbox hg; have hcz2_0 : w1.cell? ⟨gb101, 0, none⟩ = some (.int .i64 0) := (blk_cell BK101.out 0).trans rfl; have hcz2_1 : w1.cell? ⟨gb101, 1, none⟩ = some (.int .i64 0) := (blk_cell BK101.out 1).trans rfl; have hcz2_2 : w1.cell? ⟨gb101, 2, none⟩ = some (.string (⟨#[]⟩ : ByteArray)) := (blk_cell BK101.out 2).trans rfl; have hfz2_0 := blk_frozen BK101.out 0; have hfz2_1 := blk_frozen BK101.out 1; have hfz2_2 := blk_frozen BK101.out 2))
  refine bodyPost_ret (results_cell_row rfl _ _ gb101 35 #[.int .i64 0, .int .i64 0, .string (⟨#[]⟩ : ByteArray)] (0, 0) _ rfl (by (with_reducible repeat (first | refine blk_drewN ?_ _ | refine blk_drew ?_ | refine blk_alloc ?_ _)); refine blk_put (cs := #[.int .i64 0, .int .i64 0, .string (⟨#[]⟩ : ByteArray)]) ?_ 2 _ rfl; (with_reducible repeat (first | refine blk_drewN ?_ _ | refine blk_drew ?_ | refine blk_alloc ?_ _)); refine blk_put (cs := #[.int .i64 0, .int .i64 0, .string (⟨#[]⟩ : ByteArray)]) ?_ 1 _ rfl; (with_reducible repeat (first | refine blk_drewN ?_ _ | refine blk_drew ?_ | refine blk_alloc ?_ _)); refine blk_put (cs := #[.int .i64 0, .int .i64 0, .string (⟨#[]⟩ : ByteArray)]) ?_ 0 _ rfl; (with_reducible repeat (first | refine blk_drewN ?_ _ | refine blk_drew ?_ | refine blk_alloc ?_ _)); exact BK101.out) Tryz.underlying35 rfl (by kernel_rfl)) rfl ?_
  exact ⟨by first | rfl | (simp [errW_none, errW_some] <;> rfl) | (simp [*, errW_none, errW_some] <;> rfl), by repeat (first | (with_reducible first | exact HB.out | apply below_alloc | apply pw_below_drewN | apply below_drew1 | refine below_set ?_ GE101.out) | exact HB.out)⟩
end Go.Proofs.YteflfnjljjianaaGreatDoor.Qx
namespace Go.Proofs.YteflfnjljjianaaGreatDoor.Qx
open Go.RowKit Go.Proofs.YteflfnjljjianaaGreatDoorW.PrintWords Go.Proofs.YteflfnjljjianaaGreatDoorW.PrintLast Go.Proofs.YteflfnjljjianaaGreatDoorW.PrintMore
attribute [local go_sem] max2_int min2_int max_two min_two
set_option linter.unusedVariables false
set_option linter.unusedSimpArgs false
theorem int_at {X : World} {A : Option Addr} {xs : List Int} (h : Kd.C (Kd.int .i64) X A xs.length xs) {j : Nat} (hj : j < xs.length) : ∃ ad, A = some ad ∧ X.cell? (ad.add j) = some (.int .i64 (xs.getD j 0)) := by
  obtain ⟨ad, c, e, _, hK, hc⟩ := Kd.C_get h (0 : Int) (j : Int) (by omega) (by omega)
  have e1 : c = [.int .i64 (xs.getD ((j : Int).toNat) 0)] := hK
  rw [Int.toNat_natCast] at e1
  subst e1
  have hq : X.cell? (ad.add ((j : Int).toNat * 1 + 0)) = some (.int .i64 (xs.getD j 0)) := hc 0 _ rfl
  rw [Int.toNat_natCast, Nat.mul_one, Nat.add_zero] at hq
  exact ⟨ad, e, hq⟩
theorem rows_at {X : World} {A : Option Addr} {xs : List (List Int)} (h : Kd.C (Kd.slice 3 (Kd.int .i64)) X A xs.length xs) {j : Nat} (hj : j < xs.length) :
    ∃ ad A0 c0, A = some ad ∧ X.cell? (ad.add j) = some (.slice A0 (xs.getD j []).length c0) ∧ Kd.C (Kd.int .i64) X A0 (xs.getD j []).length (xs.getD j []) := by
  obtain ⟨ad, c, e, _, hK, hc0⟩ := Kd.C_get h ([] : List Int) (j : Int) (by omega) (by omega)
  have hc : ∀ i u, c[i]? = some u → X.cell? (ad.add ((j : Int).toNat * 1 + i)) = some u := hc0
  obtain ⟨A0, c0, rfl, _, h3⟩ := hK
  have h1 := hc 0 _ rfl
  rw [Nat.mul_one, Nat.add_zero] at h1
  rw [Int.toNat_natCast] at h1 h3
  exact ⟨ad, A0, c0, e, h1, h3⟩
set_option maxRecDepth 100000 in
set_option maxHeartbeats 8000000 in
theorem chapmanref32_Same.eq (A0 : Option Addr) (c0 : Nat) (A1 : Option Addr) (c1 : Nat) (l : List S35) (B0 : Option Addr) (d0 : Nat) (B1 : Option Addr) (d1 : Nat) (gs : List (List Int)) (w : World) (hr0 : Kd.C k35 w A0 l.length l) (hr1 : Kd.C k35 w A1 l.length l)
    (hs0 : Kd.C (Kd.slice 3 (Kd.int .i64)) w B0 gs.length gs) (hs1 : Kd.C (Kd.slice 3 (Kd.int .i64)) w B1 gs.length gs) (hx : ∀ x ∈ l, chapmanref06_Cmp.f 100 x.f0 x.f1 x.f2 x.f0 x.f1 x.f2 = some 0) (hl : l.length ≤ 1000000) (hg : gs.length ≤ 1000000) (hgi : ∀ g ∈ gs, g.length ≤ 1000000) :
    Calls Tryz.prog 18 #[.agg #[.slice A0 l.length c0, .slice B0 gs.length d0], .agg #[.slice A1 l.length c1, .slice B1 gs.length d1]] w fun e w' => e = .returned (.bool true) ∧ Below w.heap.size w w' := by
  have hu28 := Tryz.underlying28
  have hu47 := Tryz.underlying47
  have hu49 := Tryz.underlying49
  have hu75 := Tryz.underlying75
  have HR0 := Lib.hid hr0
  have HR1 := Lib.hid hr1
  have HS0 := Lib.hid hs0
  have HS1 := Lib.hid hs1
  have HX := Lib.hid hx
  have HL := Lib.hid hl
  have HI := Lib.hid hgi
  clear hr0 hr1 hs0 hs1 hx hl hgi
  go_enter Tryz.func18, Tryz.ntmps18
  go_wp2_with fail
  have E0 := blk_alloc (heap_alloc_new w (.cells #[.slice A0 l.length c0, .slice B0 gs.length d0] 49)) (.cells #[.slice A1 l.length c1, .slice B1 gs.length d1] 49)
  have E1 := heap_alloc_new (w.alloc (.cells #[.slice A0 l.length c0, .slice B0 gs.length d0] 49)) (.cells #[.slice A1 l.length c1, .slice B1 gs.length d1] 49)
  have hB := below_alloc (below_alloc (Below.refl w.heap.size w) (.cells #[.slice A0 l.length c0, .slice B0 gs.length d0] 49)) (.cells #[.slice A1 l.length c1, .slice B1 gs.length d1] 49)
  simp only [World.size_alloc] at E1
  generalize (w.alloc (.cells #[.slice A0 l.length c0, .slice B0 gs.length d0] 49)).alloc (.cells #[.slice A1 l.length c1, .slice B1 gs.length d1] 49) = W at *
  refine (chapmanref06_Same.eq A0 c0 A1 c1 l W (Kd.C_below HR0.out hB) (Kd.C_below HR1.out hB) HX.out HL.out).mono ?_
  rintro e w1 ⟨rfl, hb⟩
  have F : ∀ X, Below w1.heap.size w1 X → (X.cell? ⟨w.heap.size, 0, none⟩ = some (.slice A0 l.length c0) ∧ X.cell? ⟨w.heap.size, 1, none⟩ = some (.slice B0 gs.length d0) ∧ X.cell? ⟨w.heap.size + 1, 0, none⟩ = some (.slice A1 l.length c1) ∧ X.cell? ⟨w.heap.size + 1, 1, none⟩ = some (.slice B1 gs.length d1)) ∧ Kd.C (Kd.slice 3 (Kd.int .i64)) X B0 gs.length gs ∧ Kd.C (Kd.slice 3 (Kd.int .i64)) X B1 gs.length gs ∧ Below w.heap.size w X := fun X hX => by
    have e0 := blk_below (blk_below E0 hb) hX
    have e1 := blk_below (blk_below E1 hb) hX
    exact ⟨⟨(blk_cell e0 0).trans rfl, (blk_cell e0 1).trans rfl, (blk_cell e1 0).trans rfl, (blk_cell e1 1).trans rfl⟩, Kd.C_below (Kd.C_below (Kd.C_below HS0.out hB) hb) hX, Kd.C_below (Kd.C_below (Kd.C_below HS1.out hB) hb) hX, below_step (below_step hB hb) hX⟩
  have HF := Lib.hid F
  obtain ⟨⟨k0, k1, k2, k3⟩, _⟩ := F w1 (Below.refl _ _)
  clear F E0 E1 hB hb W HR0 HR1 HS0 HS1
  go_wp2
  clear k0 k1 k2 k3
  go_loopw [5, 6] (fun s5 s6 wr => ∃ (i : Nat), s5 = .int .i64 i ∧ i ≤ gs.length ∧ ∃ n, wr = w1.drewN n) (fun s5 _ _ => gs.length - (intOf s5).toNat)
  case atStart => exact ⟨0, rfl, Nat.zero_le _, 0, rfl⟩
  case round =>
    obtain ⟨i, rfl, hi, nd, rfl⟩ := hrel
    obtain ⟨⟨k0, k1, k2, k3⟩, hq0, hq1, hBB⟩ := HF.out w1 (Below.refl _ _)
    by_cases hlt : i < gs.length
    · have hd : decide ((i : Int) < (gs.length : Int)) = true := decide_eq_true (by omega)
      obtain ⟨a0, P0, e0, rfl, x0, y0⟩ := rows_at hq0 hlt
      obtain ⟨a1, P1, e1, rfl, x1, y1⟩ := rows_at hq1 hlt
      have hgl : (gs.getD i []).length ≤ 1000000 := HI.out _ (by rw [List.getD_eq_getElem?_getD, List.getElem?_eq_getElem hlt]; exact List.getElem_mem _)
      generalize gs.getD i [] = g at *
      have ge : (((g.length : Int)) != (g.length : Int)) = false := by simp
      go_wp2
      go_quiet (fail)
      go_wp2
      have Y0 := Lib.hid y0
      have Y1 := Lib.hid y1
      clear y0 y1
      go_loopw [6] (fun s6 wr => ∃ (j : Nat), s6 = .int .i64 j ∧ j ≤ g.length ∧ ∃ n, wr = w1.drewN n) (fun s6 _ => g.length - (intOf s6).toNat)
      case atStart => exact ⟨0, rfl, Nat.zero_le _, ⟨_, World.drewN_drewN _ _ _⟩⟩
      case round =>
        obtain ⟨j, rfl, hj, nj, rfl⟩ := hrel
        by_cases hjt : j < g.length
        · have hd2 : decide ((j : Int) < (g.length : Int)) = true := decide_eq_true (by omega)
          obtain ⟨z0, rfl, v0⟩ := int_at Y0.out hjt
          obtain ⟨z1, rfl, v1⟩ := int_at Y1.out hjt
          generalize g.getD j 0 = v at *
          have ve : (v != v) = false := by simp
          go_wp2
          go_quiet (fail)
          go_wp2
          exact ⟨⟨j + 1, by simp, by omega, _, rfl⟩, by simp [intOf]; omega⟩
        · have hd2 : decide ((j : Int) < (g.length : Int)) = false := decide_eq_false (by omega)
          go_wp2
          exact ⟨⟨i + 1, by simp, by omega, _, rfl⟩, by simp [intOf]; omega⟩
    · have hd : decide ((i : Int) < (gs.length : Int)) = false := decide_eq_false (by omega)
      go_wp2
      go_ret
      exact ⟨rfl, pw_below_drewN hBB nd⟩
end Go.Proofs.YteflfnjljjianaaGreatDoor.Qx
namespace Go.Proofs.YteflfnjljjianaaGreatDoor.Qx
open Go.RowKit Go.Proofs.YteflfnjljjianaaGreatDoorW.PrintWords Go.Proofs.YteflfnjljjianaaGreatDoorW.PrintLast Go.Proofs.YteflfnjljjianaaGreatDoorW.PrintMore
attribute [local go_sem] max2_int min2_int max_two min_two
set_option linter.unusedVariables false
set_option linter.unusedSimpArgs false
set_option maxRecDepth 100000 in
set_option maxHeartbeats 4000000 in
theorem chapmanlaw32_grouped.calls (k : Nat) (a b n : Int) (A0 : Option Addr) (c0 : Nat) (l0 : List (List S35)) (ps : List S35) (hps : ps.length = l0.length) (hm : l0.length ≤ 100000)
    (hOf : ∀ j, j < l0.length → partition_Of.f k a b n (l0.getD j []) = some ((ps.getD j z35).f0, (ps.getD j z35).f1, (ps.getD j z35).f2)) (hok : ∀ p ∈ ps, OkKey p) (w : World) (hr : Kd.C (Kd.slice 35 k35) w A0 l0.length l0) (hc : l0.length ≤ c0) :
    Calls Tryz.prog 19 #[.agg #[.int .i64 a, .int .i64 b, .int .i64 n], .slice A0 l0.length c0] w fun e w' => ∃ A c A' c' ss, e = .returned (.agg #[.slice A ss.length c, .slice A' (ss.map (idsOf (grpFrom [] 0 ps))).length c']) ∧ ss.Perm ((grpFrom [] 0 ps).map (·.1)) ∧ ss.Pairwise vlt ∧ Kd.C k35 w' A ss.length ss ∧ ss.length ≤ c ∧ Kd.C (Kd.slice 3 (Kd.int .i64)) w' A' (ss.map (idsOf (grpFrom [] 0 ps))).length (ss.map (idsOf (grpFrom [] 0 ps))) ∧ (ss.map (idsOf (grpFrom [] 0 ps))).length ≤ c' ∧ Below w.heap.size w w' := by
  have hu49 := Tryz.underlying49
  have HR := Lib.hid hr
  have HO := Lib.hid hOf
  have HK := Lib.hid hok
  clear hr hOf hok
  go_enter Tryz.func19, Tryz.ntmps19
  go_wp2_with fail
  have B1 := heap_alloc_new (w.alloc (.cells #[.int .i64 a, .int .i64 b, .int .i64 n] 27)) (.cells #[.slice none 0 0, .slice none 0 0] 49)
  have hB := below_alloc (below_alloc (Below.refl w.heap.size w) (.cells #[.int .i64 a, .int .i64 b, .int .i64 n] 27)) (.cells #[.slice none 0 0, .slice none 0 0] 49)
  simp only [World.size_alloc] at B1
  generalize (w.alloc (.cells #[.int .i64 a, .int .i64 b, .int .i64 n] 27)).alloc (.cells #[.slice none 0 0, .slice none 0 0] 49) = W at *
  refine (partition_Group.walk k a b n A0 c0 l0 ps hps hm HO.out HK.out W (Kd.C_below HR.out hB) hc).mono ?_
  rintro e w2 ⟨A, c, A', c', ss, rfl, hp, hpw, hC, hcc, hG, hcg, hb2⟩
  have hlt := blk_lt B1
  have hB2 := below_step hB hb2
  have E2 := blk_below B1 hb2
  have m0 : w2.cell? ⟨w.heap.size + 1, 0, none⟩ = some (.slice none 0 0) := (blk_cell E2 0).trans rfl
  have m1 : w2.cell? ⟨w.heap.size + 1, 1, none⟩ = some (.slice none 0 0) := (blk_cell E2 1).trans rfl
  have f0 := blk_frozen E2 0
  have f1 := blk_frozen E2 1
  have HC := Lib.hid hC
  have HG := Lib.hid hG
  have HB2 := Lib.hid hB2
  have HP := Lib.hid hp
  have HPW := Lib.hid hpw
  clear hB hb2 B1 E2 hC hG hB2 HR HO HK hp hpw
  simp only [List.length_map] at hcg
  simp only [List.length_map]
  go_wp2
  have hAg : Agree W.heap.size w2 ((w2.setCell ⟨w.heap.size + 1, 0, none⟩ (.slice A ss.length c)).setCell ⟨w.heap.size + 1, 1, none⟩ (.slice A' ss.length c')) := fun k hk _ => by
    rw [Below.heap_setCell _ _ _ _ (by show k ≠ w.heap.size + 1; omega), Below.heap_setCell _ _ _ _ (by show k ≠ w.heap.size + 1; omega)]
  refine bodyPost_ret (v := .agg #[.slice A ss.length c, .slice A' ss.length c']) (by simp [results, Tryz.results19, go_sem, *]) rfl ⟨A, c, A', c', ss, by simp, HP.out, HPW.out, HC.out _ hAg, hcc, by simpa using HG.out _ hAg, by simpa using hcg, ?_⟩
  repeat (with_reducible first | refine Below.drew ?_ | refine below_alloc ?_ _ | refine below_set ?_ (by omega))
  exact HB2.out
end Go.Proofs.YteflfnjljjianaaGreatDoor.Qx
namespace Go.Proofs.YteflfnjljjianaaGreatDoor.Qx
open Go.RowKit Go.Proofs.YteflfnjljjianaaGreatDoorW.PrintWords Go.Proofs.YteflfnjljjianaaGreatDoorW.PrintLast Go.Proofs.YteflfnjljjianaaGreatDoorW.PrintMore
attribute [local go_sem] max2_int min2_int max_two min_two
set_option linter.unusedVariables false
set_option linter.unusedSimpArgs false
theorem C82_far {w : World} {A : Option Addr} {n : Nat} {xs : List S82} {p : Addr} (h : Kd.C k82 w A n xs) (hA : ∀ ad, A = some ad → ad.block ≠ p.block) (u : Value) : Kd.C k82 (w.setCell p u) A n xs := by
  obtain ⟨h1, h2, h3⟩ := h
  refine ⟨h1, h2, fun hne => ?_⟩
  obtain ⟨ad, e, h⟩ := h3 hne
  refine ⟨ad, e, fun j x hx => ?_⟩
  obtain ⟨c, hc, hK, hr⟩ := h j x hx
  refine ⟨c, hc, by obtain rfl := k82_open hK; exact k82_mk _ x, fun i v hv => ?_⟩
  rw [← hr i v hv]
  have hb : ∀ m, (ad.add m).block = ad.block := fun m => by unfold Addr.add; split <;> rfl
  refine World.cell?_of_block (w := w) (Below.heap_setCell w p u _ ?_)
  rw [hb]
  exact hA ad e
set_option maxRecDepth 100000 in
set_option maxHeartbeats 4000000 in
theorem chapmanlaw32_bounded.calls (k : Nat) (A0 : Option Addr) (c0 : Nat) (l0 : List S63) (a b n : Int) (p0 p1 : Int) (p2 : ByteArray) (L : List S82) (e0 : Int) (w : World) (hr : Kd.C k63 w A0 l0.length l0) (hc : l0.length ≤ c0) (hG : Laid w) (h : partition_Bounds.f k l0 a b n p0 p1 p2 = some (L, e0)) :
    Calls Tryz.prog 22 #[.slice A0 l0.length c0, .agg #[.int .i64 a, .int .i64 b, .int .i64 n], .agg #[.int .i64 p0, .int .i64 p1, .string p2]] w fun e w' => ∃ A c, e = .returned (.agg #[.slice A L.length c, .int .i64 e0]) ∧ Kd.C k82 w' A L.length L ∧ L.length ≤ c ∧ Below w.heap.size w w' ∧ LiesL w' A L := by
  have hu56 := Tryz.underlying56
  have HR := Lib.hid hr
  have HGl := Lib.hid hG
  have HH := Lib.hid h
  clear hr hG h
  go_enter Tryz.func22, Tryz.ntmps22
  go_wp2_with fail
  have B2 := heap_alloc_new ((w.alloc (.cells #[.int .i64 a, .int .i64 b, .int .i64 n] 27)).alloc (.cells #[.int .i64 p0, .int .i64 p1, .string p2] 35)) (.cells #[.slice none 0 0, .int .i64 0] 56)
  have hB := below_alloc (below_alloc (below_alloc (Below.refl w.heap.size w) (.cells #[.int .i64 a, .int .i64 b, .int .i64 n] 27)) (.cells #[.int .i64 p0, .int .i64 p1, .string p2] 35)) (.cells #[.slice none 0 0, .int .i64 0] 56)
  simp only [World.size_alloc] at B2
  generalize ((w.alloc (.cells #[.int .i64 a, .int .i64 b, .int .i64 n] 27)).alloc (.cells #[.int .i64 p0, .int .i64 p1, .string p2] 35)).alloc (.cells #[.slice none 0 0, .int .i64 0] 56) = W at *
  refine (partition_Bounds.calls k A0 c0 l0 a b n p0 p1 p2 L e0 W (Kd.C_below HR.out hB) hc (HGl.out.below hB) HH.out).mono ?_
  rintro e w2 ⟨AL, cL, rfl, hC, hcL, hb2, hAL, hLL⟩
  have hltW := blk_lt B2
  have hB2 := below_step hB hb2
  have E2 := blk_below B2 hb2
  have m0 : w2.cell? ⟨w.heap.size + 1 + 1, 0, none⟩ = some (.slice none 0 0) := (blk_cell E2 0).trans rfl
  have m1 : w2.cell? ⟨w.heap.size + 1 + 1, 1, none⟩ = some (.int .i64 0) := (blk_cell E2 1).trans rfl
  have f0 := blk_frozen E2 0
  have f1 := blk_frozen E2 1
  have hD : Below w2.heap.size w2 w2 := Below.refl _ _
  have HC := Lib.hid hC
  have HLL := Lib.hid hLL
  clear hLL
  have HB2 := Lib.hid hB2
  have EE := Lib.hid E2
  clear hB hb2 B2 hC hB2 E2 HR HGl HH
  go_wp2
  refine bodyPost_ret (v := .agg #[.slice AL L.length cL, .int .i64 e0]) (by simp [results, Tryz.results22, go_sem, *]) rfl ⟨AL, cL, rfl, ?_, hcL, ?_, ?_⟩
  · exact C82_far (C82_far HC.out (fun ad e => by have := hAL ad e; show ad.block ≠ w.heap.size + 1 + 1; omega) _) (fun ad e => by have := hAL ad e; show ad.block ≠ w.heap.size + 1 + 1; omega) _
  · repeat (with_reducible first | refine Below.drew ?_ | refine below_alloc ?_ _ | refine below_set ?_ (by omega))
    exact HB2.out
  · rcases HLL.out with h | ⟨g, e, h⟩
    · exact Or.inl h
    · have hne : g ≠ w.heap.size + 1 + 1 := by have := hAL _ e; simp only at this; omega
      exact Or.inr ⟨g, e, blk_far (blk_far h hne _) hne _⟩
end Go.Proofs.YteflfnjljjianaaGreatDoor.Qx
namespace Go.Proofs.YteflfnjljjianaaGreatDoor.Qx
open Go.RowKit Go.Proofs.YteflfnjljjianaaGreatDoorW.PrintWords Go.Proofs.YteflfnjljjianaaGreatDoorW.PrintLast Go.Proofs.YteflfnjljjianaaGreatDoorW.PrintMore
attribute [local go_sem] max2_int min2_int max_two min_two
set_option linter.unusedVariables false
set_option linter.unusedSimpArgs false
theorem eqA82 (d : Nat) (w : World) (x0 y0 : Int) (x1 y1 : Bool) (x2 y2 : Int) (x3 y3 : Int) (x4 y4 : ByteArray) (x5 y5 : Int) (x6 y6 : Int) (x7 y7 : ByteArray) (x8 y8 : Int) :
    (Op.equalIn (d + 3) 82 (.agg #[.int .i64 x0, .bool x1, .int .i64 x2, .int .i64 x3, .string x4, .int .i64 x5, .int .i64 x6, .string x7, .int .i64 x8]) (.agg #[.int .i64 y0, .bool y1, .int .i64 y2, .int .i64 y3, .string y4, .int .i64 y5, .int .i64 y6, .string y7, .int .i64 y8])).run Tryz.prog w = .ok (x0 == y0 && (x1 == y1 && ((x2 == y2 && (x3 == y3 && (x4.toList == y4.toList))) && ((x5 == y5 && (x6 == y6 && (x7.toList == y7.toList))) && (x8 == y8))))) w := by
  refine eqA_of Tryz.underlying82 (by kernel_rfl) ?_
  refine eqf_cons (by rfl) (by go_simp; rfl) (by go_simp; rfl) (by go_simp) ?_
  refine eqf_cons (by rfl) (by go_simp; rfl) (by go_simp; rfl) (by go_simp) ?_
  refine eqf_cons (by rfl) (by go_simp) (by go_simp) (eqA35 (d + 0) w _ _ _ _ _ _) ?_
  refine eqf_cons (by rfl) (by go_simp) (by go_simp) (eqA35 (d + 0) w _ _ _ _ _ _) ?_
  exact eqf_last (by rfl) (by go_simp; rfl) (by go_simp; rfl) (by go_simp)
end Go.Proofs.YteflfnjljjianaaGreatDoor.Qx
namespace Go.Proofs.YteflfnjljjianaaGreatDoor.Qx
open Go.RowKit Go.Proofs.YteflfnjljjianaaGreatDoorW.PrintWords Go.Proofs.YteflfnjljjianaaGreatDoorW.PrintLast Go.Proofs.YteflfnjljjianaaGreatDoorW.PrintMore
attribute [local go_sem] max2_int min2_int max_two min_two
set_option linter.unusedVariables false
set_option linter.unusedSimpArgs false
attribute [local go_sem high] eqA82
def chapmanref32_SameBounds.l0 : Nat → List (S82) → List (S82) → Int → Option (Bool)
  | 0, _, _, _ => none
  | k + 1, x0, x1, x5 => if x5 < (x0.length : Int) then (if 0 ≤ x5 then (if x5 < (x1.length : Int) then (if (!(((rd_T82 x0 x5).f0) == ((rd_T82 x1 x5).f0)) || (!(((rd_T82 x0 x5).f1) == ((rd_T82 x1 x5).f1)) || ((!(((rd_T82 x0 x5).f2.f0) == ((rd_T82 x1 x5).f2.f0)) || (!(((rd_T82 x0 x5).f2.f1) == ((rd_T82 x1 x5).f2.f1)) || (!((((rd_T82 x0 x5).f2.f2).toList) == (((rd_T82 x1 x5).f2.f2).toList))))) || ((!(((rd_T82 x0 x5).f3.f0) == ((rd_T82 x1 x5).f3.f0)) || (!(((rd_T82 x0 x5).f3.f1) == ((rd_T82 x1 x5).f3.f1)) || (!((((rd_T82 x0 x5).f3.f2).toList) == (((rd_T82 x1 x5).f3.f2).toList))))) || (!(((rd_T82 x0 x5).f4) == ((rd_T82 x1 x5).f4))))))) = true then (some false) else (chapmanref32_SameBounds.l0 k x0 x1 (wrap64 (x5 + 1)))) else (none)) else (none)) else (some true)
def chapmanref32_SameBounds.f (k : Nat) (l0 : List (S82)) (l1 : List (S82)) : Option (Bool) := if (l0.length : Int) = (l1.length : Int) then (chapmanref32_SameBounds.l0 k l0 l1 0) else (some false)
set_option maxHeartbeats 8000000 in
set_option maxRecDepth 100000 in
theorem chapmanref32_SameBounds.calls (k : Nat) (A0 : Option Addr) (c0 : Nat) (l0 : List (S82)) (A1 : Option Addr) (c1 : Nat) (l1 : List (S82)) (r : Bool) (w : World) (hr0 : Kd.C k82 w A0 l0.length l0) (hc0 : l0.length ≤ c0) (hr1 : Kd.C k82 w A1 l1.length l1) (hc1 : l1.length ≤ c1) (h : chapmanref32_SameBounds.f k l0 l1 = some r) :
    Calls Tryz.prog 26 #[.slice A0 l0.length c0, .slice A1 l1.length c1] w fun e w' => e = .returned (.bool r) ∧ Drawn0 w w' := by
  have hu82 := Tryz.underlying82
  have HR0 := Aside0.mk hr0
  have HC0 := Aside0.mk hc0
  clear hr0 hc0
  have HR1 := Aside0.mk hr1
  have HC1 := Aside0.mk hc1
  clear hr1 hc1
  have H : (if (l0.length : Int) = (l1.length : Int) then (chapmanref32_SameBounds.l0 k l0 l1 0) else (some false)) = some r := h
  clear h
  by_cases c3 : (l0.length : Int) = (l1.length : Int)
  · rw [if_pos c3] at H
    have c3b0 : ((l0.length : Int) == (l1.length : Int)) = true := beq_iff_eq.mpr c3
    have c3b1 : ((l0.length : Int) != (l1.length : Int)) = false := bne_eq_false_iff_eq.mpr c3
    have c3b2 : (l0.length == l1.length) = true := by first | simpa using c3 | (simp at c3 ⊢; omega)
    clear c3
    have H' := Aside0.mk H
    clear H
    go_enter Tryz.func26, Tryz.ntmps26
    go_wp2
    repeat (go_quiet (fail); try go_wp2)
    go_loopg [5] k (fun kq v5 w' => ∃ (x5_1 : Int), v5 = .int .i64 x5_1 ∧ Aside0 (chapmanref32_SameBounds.l0 kq l0 l1 x5_1 = some r) ∧ Aside0 (kq ≤ k) ∧ Drawn0 w w')
    case atStart => exact ⟨(0), (by first | rfl | (simp; done) | (simp [*]; done)), H', ⟨Nat.le_refl _⟩, by repeat (first | exact Drawn0.refl _ | apply Drawn0.step)⟩
    case round =>
      clear H'
      try clear c1
      try clear c2
      try clear p2
      try clear c3
      try clear c3b0
      try clear c3b1
      try clear c3b2
      obtain ⟨x5_1, rfl, HA, HK1, ⟨m1, rfl⟩⟩ := hrel
      cases gk with
      | zero => exact absurd HA.out (by simp [chapmanref32_SameBounds.l0])
      | succ k1 =>
        have H := HA.out
        clear HA
        simp only [chapmanref32_SameBounds.l0] at H
        by_cases c4 : x5_1 < (l0.length : Int)
        · rw [if_pos c4] at H
          have c4b0 : decide (x5_1 < (l0.length : Int)) = true := decide_eq_true c4
          clear c4
          by_cases c5 : 0 ≤ x5_1
          · rw [if_pos c5] at H
            have c5b0 : decide (0 ≤ x5_1) = true := decide_eq_true c5
            clear c5
            by_cases c6 : x5_1 < (l1.length : Int)
            · rw [if_pos c6] at H
              have c6b0 : decide (x5_1 < (l1.length : Int)) = true := decide_eq_true c6
              clear c6
              by_cases c7 : (!(((rd_T82 l0 x5_1).f0) == ((rd_T82 l1 x5_1).f0)) || (!(((rd_T82 l0 x5_1).f1) == ((rd_T82 l1 x5_1).f1)) || ((!(((rd_T82 l0 x5_1).f2.f0) == ((rd_T82 l1 x5_1).f2.f0)) || (!(((rd_T82 l0 x5_1).f2.f1) == ((rd_T82 l1 x5_1).f2.f1)) || (!((((rd_T82 l0 x5_1).f2.f2).toList) == (((rd_T82 l1 x5_1).f2.f2).toList))))) || ((!(((rd_T82 l0 x5_1).f3.f0) == ((rd_T82 l1 x5_1).f3.f0)) || (!(((rd_T82 l0 x5_1).f3.f1) == ((rd_T82 l1 x5_1).f3.f1)) || (!((((rd_T82 l0 x5_1).f3.f2).toList) == (((rd_T82 l1 x5_1).f3.f2).toList))))) || (!(((rd_T82 l0 x5_1).f4) == ((rd_T82 l1 x5_1).f4))))))) = true
              · rw [if_pos c7] at H
                have c7b0 : (!(((rd_T82 l0 x5_1).f0) == ((rd_T82 l1 x5_1).f0)) || (!(((rd_T82 l0 x5_1).f1) == ((rd_T82 l1 x5_1).f1)) || ((!(((rd_T82 l0 x5_1).f2.f0) == ((rd_T82 l1 x5_1).f2.f0)) || (!(((rd_T82 l0 x5_1).f2.f1) == ((rd_T82 l1 x5_1).f2.f1)) || (!((((rd_T82 l0 x5_1).f2.f2).toList) == (((rd_T82 l1 x5_1).f2.f2).toList))))) || ((!(((rd_T82 l0 x5_1).f3.f0) == ((rd_T82 l1 x5_1).f3.f0)) || (!(((rd_T82 l0 x5_1).f3.f1) == ((rd_T82 l1 x5_1).f3.f1)) || (!((((rd_T82 l0 x5_1).f3.f2).toList) == (((rd_T82 l1 x5_1).f3.f2).toList))))) || (!(((rd_T82 l0 x5_1).f4) == ((rd_T82 l1 x5_1).f4))))))) = true := c7
                clear c7
                obtain rfl := Option.some.inj H
                have p101 : 0 ≤ (x5_1 : Int) := of_decide_eq_true (by first | (with_reducible assumption) | assumption)
                have q101 : x5_1 < (l0.length : Int) := of_decide_eq_true (by first | (with_reducible assumption) | assumption)
                obtain ⟨ad101, e101, hx101_0, hx101_1, hx101_2, hx101_3, hx101_4, hx101_5, hx101_6, hx101_7, hx101_8⟩ := at_T82 HR0.out x5_1 p101 q101
                cases e101
                replace p101 := eq_true p101
                replace q101 := eq_true q101
                have p102 : 0 ≤ (x5_1 : Int) := of_decide_eq_true (by first | (with_reducible assumption) | assumption)
                have q102 : x5_1 < (l1.length : Int) := of_decide_eq_true (by first | (with_reducible assumption) | assumption)
                obtain ⟨ad102, e102, hx102_0, hx102_1, hx102_2, hx102_3, hx102_4, hx102_5, hx102_6, hx102_7, hx102_8⟩ := at_T82 HR1.out x5_1 p102 q102
                cases e102
                replace p102 := eq_true p102
                replace q102 := eq_true q102
                go_wp2
                repeat (go_quiet (fail); try go_wp2)
                go_ret
                exact ⟨by first | rfl | (simp; done) | (simp [*]; done), by repeat (first | exact Drawn0.refl _ | apply Drawn0.step)⟩
              · rw [if_neg c7] at H
                have c7b0 : (!(((rd_T82 l0 x5_1).f0) == ((rd_T82 l1 x5_1).f0)) || (!(((rd_T82 l0 x5_1).f1) == ((rd_T82 l1 x5_1).f1)) || ((!(((rd_T82 l0 x5_1).f2.f0) == ((rd_T82 l1 x5_1).f2.f0)) || (!(((rd_T82 l0 x5_1).f2.f1) == ((rd_T82 l1 x5_1).f2.f1)) || (!((((rd_T82 l0 x5_1).f2.f2).toList) == (((rd_T82 l1 x5_1).f2.f2).toList))))) || ((!(((rd_T82 l0 x5_1).f3.f0) == ((rd_T82 l1 x5_1).f3.f0)) || (!(((rd_T82 l0 x5_1).f3.f1) == ((rd_T82 l1 x5_1).f3.f1)) || (!((((rd_T82 l0 x5_1).f3.f2).toList) == (((rd_T82 l1 x5_1).f3.f2).toList))))) || (!(((rd_T82 l0 x5_1).f4) == ((rd_T82 l1 x5_1).f4))))))) = false := by simpa using c7
                clear c7
                have H' := Aside0.mk H
                clear H
                have p101 : 0 ≤ (x5_1 : Int) := of_decide_eq_true (by first | (with_reducible assumption) | assumption)
                have q101 : x5_1 < (l0.length : Int) := of_decide_eq_true (by first | (with_reducible assumption) | assumption)
                obtain ⟨ad101, e101, hx101_0, hx101_1, hx101_2, hx101_3, hx101_4, hx101_5, hx101_6, hx101_7, hx101_8⟩ := at_T82 HR0.out x5_1 p101 q101
                cases e101
                replace p101 := eq_true p101
                replace q101 := eq_true q101
                have p102 : 0 ≤ (x5_1 : Int) := of_decide_eq_true (by first | (with_reducible assumption) | assumption)
                have q102 : x5_1 < (l1.length : Int) := of_decide_eq_true (by first | (with_reducible assumption) | assumption)
                obtain ⟨ad102, e102, hx102_0, hx102_1, hx102_2, hx102_3, hx102_4, hx102_5, hx102_6, hx102_7, hx102_8⟩ := at_T82 HR1.out x5_1 p102 q102
                cases e102
                replace p102 := eq_true p102
                replace q102 := eq_true q102
                go_wp2
                repeat (go_quiet (fail); try go_wp2)
                go_roundg k1
                case measure => have := HK1.out; omega
                case rel => exact ⟨(wrap64 (x5_1 + 1)), (by first | rfl | (simp; done) | (simp [*]; done)), H', ⟨by have := HK1.out; omega⟩, by repeat (first | exact Drawn0.refl _ | apply Drawn0.step)⟩
            · rw [if_neg c6] at H
              exact absurd H (by simp)
          · rw [if_neg c5] at H
            exact absurd H (by simp)
        · rw [if_neg c4] at H
          have c4b0 : decide (x5_1 < (l0.length : Int)) = false := decide_eq_false c4
          clear c4
          obtain rfl := Option.some.inj H
          go_wp2
          repeat (go_quiet (fail); try go_wp2)
          go_ret
          exact ⟨by first | rfl | (simp; done) | (simp [*]; done), by repeat (first | exact Drawn0.refl _ | apply Drawn0.step)⟩
  · rw [if_neg c3] at H
    have c3b0 : ((l0.length : Int) == (l1.length : Int)) = false := beq_eq_false_iff_ne.mpr c3
    have c3b1 : ((l0.length : Int) != (l1.length : Int)) = true := bne_iff_ne.mpr c3
    have c3b2 : (l0.length == l1.length) = false := by first | simpa using c3 | (simp at c3 ⊢; omega)
    obtain rfl := Option.some.inj H
    go_enter Tryz.func26, Tryz.ntmps26
    go_wp2
    repeat (go_quiet (fail); try go_wp2)
    go_ret
    exact ⟨by first | rfl | (simp; done) | (simp [*]; done), by repeat (first | exact Drawn0.refl _ | apply Drawn0.step)⟩
end Go.Proofs.YteflfnjljjianaaGreatDoor.Qx
namespace Go.Proofs.YteflfnjljjianaaGreatDoor.Qx
open Go.RowKit Go.Proofs.YteflfnjljjianaaGreatDoorW.PrintWords Go.Proofs.YteflfnjljjianaaGreatDoorW.PrintLast Go.Proofs.YteflfnjljjianaaGreatDoorW.PrintMore
attribute [local go_sem] max2_int min2_int max_two min_two
set_option linter.unusedVariables false
set_option linter.unusedSimpArgs false
def partition_Never.f0 (k K : Nat) (l0 : List S63) (a b n p0 p1 : Int) (p2 : ByteArray) (cc : Int) (v1 : S35) : Option Bool :=
  (partition_Bounds.f k l0 a b n p0 p1 p2).bind fun q => if cc < (q.1.length : Int) then bounds_Never.f K (rd_T82 q.1 cc) v1 else none
set_option maxRecDepth 100000 in
set_option maxHeartbeats 4000000 in
theorem partition_Never.calls0 (k K : Nat) (A0 : Option Addr) (c0 : Nat) (l0 : List S63) (a b n p0 p1 : Int) (p2 : ByteArray) (c kk i : Int) (s : ByteArray) (A : Option Addr) (m : Nat) (cc ce : Int) (v0 v1 : S35) (a0 a1 : List S38) (P : Nat → Prop) (w : World)
    (hr : Kd.C k63 w A0 l0.length l0) (hc : l0.length ≤ c0) (hG : Laid w) (he : Kd.V k38 38 w w.heap.size P (.slice A 2 m) [⟨2, cc, v0, a0⟩, ⟨1, ce, v1, a1⟩]) (h0 : 0 ≤ cc) (ha : a ≠ 2) (y : Bool) (h : partition_Never.f0 k K l0 a b n p0 p1 p2 cc v1 = some y) :
    Calls Tryz.prog 57 #[.slice A0 l0.length c0, .agg #[.int .i64 a, .int .i64 b, .int .i64 n], .agg #[.int .i64 p0, .int .i64 p1, .string p2], .agg #[.int .i64 3, .int .i64 c, .int .i64 kk, .int .i64 i, .string s, .slice A 2 m]] w fun e w' => e = .returned (.bool y) ∧ Below w.heap.size w w' := by
  obtain ⟨⟨L, e0⟩, hb, h⟩ := Option.bind_eq_some_iff.1 h
  simp only at h
  split at h
  case isFalse => exact absurd h (by simp)
  rename_i h1
  have hu27 := Tryz.underlying27
  have hu35 := Tryz.underlying35
  have hu38 := Tryz.underlying38
  have HR := Lib.hid hr
  have HGl := Lib.hid hG
  have HE := Lib.hid he
  have HBD := Lib.hid hb
  have HN := Lib.hid h
  clear hr hG he hb h
  go_enter Tryz.func57, Tryz.ntmps57
  go_wp2_with fail
  have B0 := blk_alloc (blk_alloc (heap_alloc_new w (.cells #[.int .i64 a, .int .i64 b, .int .i64 n] 27)) (.cells #[.int .i64 p0, .int .i64 p1, .string p2] 35)) (.cells #[.int .i64 3, .int .i64 c, .int .i64 kk, .int .i64 i, .string s, .slice A 2 m] 38)
  have B2 := heap_alloc_new ((w.alloc (.cells #[.int .i64 a, .int .i64 b, .int .i64 n] 27)).alloc (.cells #[.int .i64 p0, .int .i64 p1, .string p2] 35)) (.cells #[.int .i64 3, .int .i64 c, .int .i64 kk, .int .i64 i, .string s, .slice A 2 m] 38)
  simp only [World.size_alloc] at B2
  have hB := below_alloc (below_alloc (below_alloc (Below.refl w.heap.size w) (.cells #[.int .i64 a, .int .i64 b, .int .i64 n] 27)) (.cells #[.int .i64 p0, .int .i64 p1, .string p2] 35)) (.cells #[.int .i64 3, .int .i64 c, .int .i64 kk, .int .i64 i, .string s, .slice A 2 m] 38)
  generalize ((w.alloc (.cells #[.int .i64 a, .int .i64 b, .int .i64 n] 27)).alloc (.cells #[.int .i64 p0, .int .i64 p1, .string p2] 35)).alloc (.cells #[.int .i64 3, .int .i64 c, .int .i64 kk, .int .i64 i, .string s, .slice A 2 m] 38) = W at *
  refine (partition_Bounds.calls k A0 c0 l0 a b n p0 p1 p2 L e0 W (Kd.C_below HR.out hB) hc (HGl.out.below hB) HBD.out).mono ?_
  rintro e w2 ⟨AL, cL, rfl, hC, hcL, hb2, _⟩
  have hB2 := below_step hB hb2
  have E0 := blk_below B0 hb2
  have E2 := blk_below B2 hb2
  have g0 : w2.cell? ⟨w.heap.size, 0, none⟩ = some (.int .i64 a) := (blk_cell E0 0).trans rfl
  have m0 : w2.cell? ⟨w.heap.size + 1 + 1, 0, none⟩ = some (.int .i64 3) := (blk_cell E2 0).trans rfl
  have m1 : w2.cell? ⟨w.heap.size + 1 + 1, 1, none⟩ = some (.int .i64 c) := (blk_cell E2 1).trans rfl
  have m2 : w2.cell? ⟨w.heap.size + 1 + 1, 2, none⟩ = some (.int .i64 kk) := (blk_cell E2 2).trans rfl
  have m3 : w2.cell? ⟨w.heap.size + 1 + 1, 3, none⟩ = some (.int .i64 i) := (blk_cell E2 3).trans rfl
  have m4 : w2.cell? ⟨w.heap.size + 1 + 1, 4, none⟩ = some (.string s) := (blk_cell E2 4).trans rfl
  have m5 : w2.cell? ⟨w.heap.size + 1 + 1, 5, none⟩ = some (.slice A 2 m) := (blk_cell E2 5).trans rfl
  have HC := Lib.hid hC
  have HB2 := Lib.hid hB2
  have EE := Lib.hid E0
  have hV : Kd.V k38 38 w2 w2.heap.size P (.slice A 2 m) [⟨2, cc, v0, a0⟩, ⟨1, ce, v1, a1⟩] := Kd.V_map HE.out (fun _ hf => Kd.F_below hf hB2)
  have HV := Lib.hid hV
  clear B0 B2 hB hb2 hB2 E0 E2 hC hV HR HGl HE HBD
  go_wp2_with fail
  refine (bounds_Never.calls K AL cL L c kk i s A m cc ce v0 v1 a0 a1 P w2 HC.out HV.out h0 h1 y HN.out).mono ?_
  rintro e w3 ⟨rfl, hb3⟩
  have g3 : w3.cell? ⟨w.heap.size, 0, none⟩ = some (.int .i64 a) := (blk_cell (blk_below EE.out hb3) 0).trans rfl
  have hB3 := below_step HB2.out hb3
  have ha2 : (a == 2) = false := by simp [ha]
  clear EE HB2 hb3 HC HV HN g0 m0 m1 m2 m3 m4 m5
  cases y with
  | true =>
    go_wp2
    go_ret
    exact ⟨rfl, hB3⟩
  | false =>
    go_wp2
    go_ret
    exact ⟨rfl, hB3⟩
end Go.Proofs.YteflfnjljjianaaGreatDoor.Qx
namespace Go.Proofs.YteflfnjljjianaaGreatDoor.Qx
open Go.RowKit Go.Proofs.YteflfnjljjianaaGreatDoorW.PrintWords Go.Proofs.YteflfnjljjianaaGreatDoorW.PrintLast Go.Proofs.YteflfnjljjianaaGreatDoorW.PrintMore
attribute [local go_sem] max2_int min2_int max_two min_two
set_option linter.unusedVariables false
set_option linter.unusedSimpArgs false
set_option maxRecDepth 100000 in
set_option maxHeartbeats 4000000 in
theorem chapmanlaw32_never.calls0 (k K : Nat) (A0 : Option Addr) (c0 : Nat) (l0 : List S63) (a b n p0 p1 : Int) (p2 : ByteArray) (c kk i : Int) (s : ByteArray) (A : Option Addr) (m : Nat) (cc ce : Int) (v0 v1 : S35) (a0 a1 : List S38) (P : Nat → Prop) (w : World)
    (hr : Kd.C k63 w A0 l0.length l0) (hc : l0.length ≤ c0) (hG : Laid w) (he : Kd.V k38 38 w w.heap.size P (.slice A 2 m) [⟨2, cc, v0, a0⟩, ⟨1, ce, v1, a1⟩]) (h0 : 0 ≤ cc) (ha : a ≠ 2) (y : Bool) (h : partition_Never.f0 k K l0 a b n p0 p1 p2 cc v1 = some y) :
    Calls Tryz.prog 28 #[.slice A0 l0.length c0, .agg #[.int .i64 a, .int .i64 b, .int .i64 n, .int .i64 p0, .int .i64 p1, .string p2, .int .i64 3, .int .i64 c, .int .i64 kk, .int .i64 i, .string s, .slice A 2 m]] w fun e w' => e = .returned (.bool y) ∧ Below w.heap.size w w' := by
  have hu61 := Tryz.underlying61
  have HR := Lib.hid hr
  have HGl := Lib.hid hG
  have HE := Lib.hid he
  have HN := Lib.hid h
  clear hr hG he h
  go_enter Tryz.func28, Tryz.ntmps28
  go_wp2_with fail
  have hB := below_alloc (Below.refl w.heap.size w) (.cells #[.int .i64 a, .int .i64 b, .int .i64 n, .int .i64 p0, .int .i64 p1, .string p2, .int .i64 3, .int .i64 c, .int .i64 kk, .int .i64 i, .string s, .slice A 2 m] 61)
  generalize w.alloc (.cells #[.int .i64 a, .int .i64 b, .int .i64 n, .int .i64 p0, .int .i64 p1, .string p2, .int .i64 3, .int .i64 c, .int .i64 kk, .int .i64 i, .string s, .slice A 2 m] 61) = W at *
  have hV : Kd.V k38 38 W W.heap.size P (.slice A 2 m) [⟨2, cc, v0, a0⟩, ⟨1, ce, v1, a1⟩] := Kd.V_map HE.out (fun _ hf => Kd.F_below hf hB)
  refine (partition_Never.calls0 k K A0 c0 l0 a b n p0 p1 p2 c kk i s A m cc ce v0 v1 a0 a1 P W (Kd.C_below HR.out hB) hc (HGl.out.below hB) hV h0 ha y HN.out).mono ?_
  rintro e w2 ⟨rfl, hb2⟩
  have hB2 := below_step hB hb2
  clear hB hV hb2
  go_wp2
  go_ret
  exact ⟨rfl, hB2⟩
end Go.Proofs.YteflfnjljjianaaGreatDoor.Qx
namespace Go.Proofs.YteflfnjljjianaaGreatDoor.Qx
open Go.RowKit Go.Proofs.YteflfnjljjianaaGreatDoorW.PrintWords Go.Proofs.YteflfnjljjianaaGreatDoorW.PrintLast Go.Proofs.YteflfnjljjianaaGreatDoorW.PrintMore
attribute [local go_sem] max2_int min2_int max_two min_two
set_option linter.unusedVariables false
set_option linter.unusedSimpArgs false
def chapmanref06_Str.f (a0 : ByteArray) : Option (Int × Int × ByteArray) := some (3, 0, a0)
set_option maxHeartbeats 8000000 in
set_option maxRecDepth 100000 in
theorem chapmanref06_Str.calls (a0 : ByteArray) (r1 : Int) (r2 : Int) (r3 : ByteArray) (w : World) (h : chapmanref06_Str.f a0 = some (r1, r2, r3)) :
    Calls Tryz.prog 38 #[.string a0] w fun e w' => e = .returned (.agg #[.int .i64 r1, .int .i64 r2, .string r3]) ∧ Below w.heap.size w w' := by
  have hu35 := Tryz.underlying35
  have HB := Aside0.mk (Below.refl w.heap.size w)
  have H : (some (3, 0, a0)) = some (r1, r2, r3) := h
  clear h
  simp only [Option.some.injEq, Prod.mk.injEq] at H
  obtain ⟨rfl, rfl, rfl⟩ := H
  go_enter Tryz.func38, Tryz.ntmps38
  go_wp2_with (first | ((with_reducible refine gate_dst (N := 2) rfl ?_); refine box_event ?hg (N := 2) ?hd (cs := #[.int .i64 0, .int .i64 0, .string (⟨#[]⟩ : ByteArray)]) (t := 35) ?hr ?_; (case hd => rfl); (case hg => rfl); (case hr => first | (go_simp; done) | (go_simp; rfl)); intro gb101 hg w2 hbox hb; have n0_ := Aside0.mk (below_step (by repeat (first | (with_reducible first | exact HB.out | apply below_alloc | apply pw_below_drewN | apply below_drew1) | exact HB.out)) hb); have n1_ := Aside0.mk (hbox); have n2_ := Aside0.mk ((by rw [hg]; exact (below_size (by repeat (first | (with_reducible first | exact HB.out | apply below_alloc | apply pw_below_drewN | apply below_drew1) | exact HB.out))) : w.heap.size ≤ gb101)); have n3_ := Aside0.mk ((by rw [hg]; exact (below_size (by repeat (first | (with_reducible first | exact HB.out | apply below_alloc | apply pw_below_drewN | apply below_drew1) | exact HB.out))) : w.heap.size ≤ gb101)); clear HB; have HB := n0_; have BK101 := n1_; have GW101 := n2_; have GE101 := n3_; clear n0_ n1_ n2_ n3_; clear hb hbox hg; have hcz3_0 : w2.cell? ⟨gb101, 0, none⟩ = some (.int .i64 0) := (blk_cell BK101.out 0).trans rfl; have hcz3_1 : w2.cell? ⟨gb101, 1, none⟩ = some (.int .i64 0) := (blk_cell BK101.out 1).trans rfl; have hcz3_2 : w2.cell? ⟨gb101, 2, none⟩ = some (.string (⟨#[]⟩ : ByteArray)) := (blk_cell BK101.out 2).trans rfl; have hfz3_0 := blk_frozen BK101.out 0; have hfz3_1 := blk_frozen BK101.out 1; have hfz3_2 := blk_frozen BK101.out 2))
  refine bodyPost_ret (results_cell_row rfl _ _ gb101 35 #[.int .i64 3, .int .i64 0, .string a0] (0, 0) _ rfl (by (with_reducible repeat (first | refine blk_drewN ?_ _ | refine blk_drew ?_ | refine blk_alloc ?_ _)); refine blk_put (cs := #[.int .i64 3, .int .i64 0, .string (⟨#[]⟩ : ByteArray)]) ?_ 2 _ rfl; (with_reducible repeat (first | refine blk_drewN ?_ _ | refine blk_drew ?_ | refine blk_alloc ?_ _)); refine blk_put (cs := #[.int .i64 3, .int .i64 0, .string (⟨#[]⟩ : ByteArray)]) ?_ 1 _ rfl; (with_reducible repeat (first | refine blk_drewN ?_ _ | refine blk_drew ?_ | refine blk_alloc ?_ _)); refine blk_put (cs := #[.int .i64 0, .int .i64 0, .string (⟨#[]⟩ : ByteArray)]) ?_ 0 _ rfl; (with_reducible repeat (first | refine blk_drewN ?_ _ | refine blk_drew ?_ | refine blk_alloc ?_ _)); exact BK101.out) Tryz.underlying35 rfl (by kernel_rfl)) rfl ?_
  exact ⟨by first | rfl | (simp [errW_none, errW_some] <;> rfl) | (simp [*, errW_none, errW_some] <;> rfl), by repeat (first | (with_reducible first | exact HB.out | apply below_alloc | apply pw_below_drewN | apply below_drew1 | refine below_set ?_ GE101.out) | exact HB.out)⟩
end Go.Proofs.YteflfnjljjianaaGreatDoor.Qx
