/- For every drawn input that is laid out, the card PartitionBuckets answers as its law says (PartitionBucketsCardSaid); there are no conditions. -/
import Derived.Test.YteflfnjljjianaaGreatDoorPK02
import Derived.Test.YteflfnjljjianaaGreatDoorPK03
import Derived.Test.YteflfnjljjianaaGreatDoorPK04
import Derived.Test.YteflfnjljjianaaGreatDoorPK05
import Derived.Test.YteflfnjljjianaaGreatDoorPK06
import Derived.Test.YteflfnjljjianaaGreatDoorPK07
import Derived.Test.YteflfnjljjianaaGreatDoorPK10
import Derived.Test.YteflfnjljjianaaGreatDoorPK11
import Derived.Test.YteflfnjljjianaaGreatDoorPK12
import Derived.KernelRfl
import Derived.BigRegion
import Derived.BigQuiet
import Derived.WalkKit
import Derived.Test.YteflfnjljjianaaGreatDoorRows
import Derived.Test.YteflfnjljjianaaGreatDoorTie
import Derived.Test.YteflfnjljjianaaGreatDoorCards
import Derived.ProofKit
import Derived.OpenShut
import Derived.ShutString
import Derived.ChangeOld
import Derived.Below
import Derived.SizedLaws
import Derived.JoinedOf
import Derived.LaidLaws
import Derived.LaidHandle
import Derived.Laws.IdiomArrays
import Derived.Deep.Slices
import Derived.SevenTiedAt
import Derived.RowKitTokens
import Derived.ChangeVars
namespace Go.Proofs.YteflfnjljjianaaGreatDoor.Qx
open Go.RowKit Go.Proofs.YteflfnjljjianaaGreatDoorW.PrintWords Go.Proofs.YteflfnjljjianaaGreatDoorW.PrintLast Go.Proofs.YteflfnjljjianaaGreatDoorW.PrintMore
attribute [local go_sem] max2_int min2_int max_two min_two
set_option linter.unusedVariables false
set_option linter.unusedSimpArgs false
attribute [local go_sem high] eqA35
theorem bel_cell {X Y : World} {a : Addr} {v : Value} (h : X.cell? a = some v) (hb : Below X.heap.size X Y) : Y.cell? a = some v := (hb.cell (row_cell_lt h)).trans h
set_option maxRecDepth 100000 in
set_option maxHeartbeats 8000000 in
theorem partition_equates.calls (c k i : Int) (s : ByteArray) (A : Option Addr) (m : Nat) (cc ce : Int) (v0 v1 : S35) (a0 a1 : List S38) (w : World) (he : Kd.C k38 w A 2 [⟨2, cc, v0, a0⟩, ⟨1, ce, v1, a1⟩]) :
    Calls Tryz.prog 101 #[.agg #[.int .i64 3, .int .i64 c, .int .i64 k, .int .i64 i, .string s, .slice A 2 m], .int .i64 cc] w fun e w' => e = .returned (.tuple #[.agg #[.int .i64 v1.f0, .int .i64 v1.f1, .string v1.f2], .bool true]) ∧ Below w.heap.size w w' := by
  have hu38 := Tryz.underlying38
  have hu36 := Tryz.underlying36
  have hu35 := Tryz.underlying35
  have HE := Lib.hid he
  clear he
  go_enter Tryz.func101, Tryz.ntmps101
  go_upto_region 3 with (fail)
  obtain ⟨ad, A5, c5, e5, q0, q1, q2, q3, q4, q5, _, _⟩ := at_T38 HE.out 0 (by omega) (by omega)
  obtain ⟨ad', A6, c6, e6, p0, p1, p2, p3, p4, p5, _, _⟩ := at_T38 HE.out 1 (by omega) (by omega)
  subst e5
  obtain rfl := Option.some.inj e6
  simp only [rd_T38, Int.toNat_zero, Nat.zero_mul, Int.toNat_one, Nat.one_mul, List.getD_cons_zero, List.getD_cons_succ] at q0 q1 q2 q3 q4 q5 p0 p1 p2 p3 p4 p5
  have ez : ad.add 0 = ad := rfl
  simp only [ez] at q0 q1 q2 q3 q4 q5
  have r0 : w.cell? ⟨ad.block, ad.off + 6, none⟩ = some _ := p0
  have r1 : w.cell? ⟨ad.block, ad.off + 6 + 1, none⟩ = some _ := p1
  have r2 : w.cell? ⟨ad.block, ad.off + 6 + 2, none⟩ = some _ := p2
  have r3 : w.cell? ⟨ad.block, ad.off + 6 + 3, none⟩ = some _ := p3
  have r4 : w.cell? ⟨ad.block, ad.off + 6 + 4, none⟩ = some _ := p4
  have r5 : w.cell? ⟨ad.block, ad.off + 6 + 5, none⟩ = some _ := p5
  have hl := row_cell_lt q0
  have h0 : ad.block ≠ w.heap.size := by omega
  have h1 : ad.block ≠ w.heap.size + 1 := by omega
  have h2 : ad.block ≠ w.heap.size + 1 + 1 := by omega
  have h3 : ad.block ≠ w.heap.size + 1 + 1 + 1 := by omega
  have h4 : ad.block ≠ w.heap.size + 2 := by omega
  have h5 : ad.block ≠ w.heap.size + 3 := by omega
  have l1 : ad.block < w.heap.size + 1 := by omega
  have l2 : ad.block < w.heap.size + 1 + 1 := by omega
  have l3 : ad.block < w.heap.size + 1 + 1 + 1 := by omega
  clear ez HE p0 p1 p2 p3 p4 p5 e6
  clear h0 h1 h2 h3 h4 h5
  go_region
  all_goals
    go_upto_region 6 with (fail)
    go_region
  all_goals
    go_wp2
    refine bodyPost_ret (v := .tuple #[.agg #[.int .i64 v1.f0, .int .i64 v1.f1, .string v1.f2], .bool true]) (by simp [results, Tryz.results101, go_sem, *]) rfl ⟨rfl, ?_⟩
    repeat (with_reducible first | exact Below.refl _ _ | refine below_alloc ?_ _ | refine below_drew1 ?_ | refine pw_below_drewN ?_ _)
def nv1Rel2 (b n : Int) (v1 p q : S35) (ix : Nat) (v : Value) (X : World) : Prop := match ix with
  | 0 => v = .bool true
  | 1 => v = .bool true
  | 2 => v = .agg #[.int .i64 2, .int .i64 b, .int .i64 n]
  | 3 => v = .agg #[.int .i64 v1.f0, .int .i64 v1.f1, .string v1.f2]
  | 4 => v = .agg #[.int .i64 q.f0, .int .i64 q.f1, .string q.f2]
  | 5 => v = .agg #[.int .i64 p.f0, .int .i64 p.f1, .string p.f2]
  | 6 => v = .bool (!q.f0 == p.f0 || (!q.f1 == p.f1 || !q.f2.toList == p.f2.toList))
  | 7 => v = .bool (!q.f0 == p.f0 || (!q.f1 == p.f1 || !q.f2.toList == p.f2.toList))
  | _ => True
theorem nv1Rel2.stable (b n : Int) (v1 p q : S35) : ∀ ix v X Y, Below X.heap.size X Y → nv1Rel2 b n v1 p q ix v X → nv1Rel2 b n v1 p q ix v Y := by
  intro ix v X Y hb h
  match ix, h with
  | 0, h => exact h
  | 1, h => exact h
  | 2, h => exact h
  | 3, h => exact h
  | 4, h => exact h
  | 5, h => exact h
  | 6, h => exact h
  | 7, h => exact h
  | ix + 8, _ => exact trivial
set_option maxRecDepth 100000 in
set_option maxHeartbeats 8000000 in
theorem partition_Never_1.calls (K : Nat) (b n : Int) (p q : S35) (c k i : Int) (s : ByteArray) (A : Option Addr) (m : Nat) (ce : Int) (v0 v1 : S35) (a0 a1 : List S38) (g1 g2 : Nat) (w : World) (he : Kd.C k38 w A 2 [⟨2, b, v0, a0⟩, ⟨1, ce, v1, a1⟩])
    (h1 : w.heap[g1]? = some (.cells #[.int .i64 2, .int .i64 b, .int .i64 n] 27 (0, 0))) (h2 : w.heap[g2]? = some (.cells #[.int .i64 p.f0, .int .i64 p.f1, .string p.f2] 35 (0, 0))) (hof : partition_of.f K 2 b n v1.f0 v1.f1 v1.f2 = some (q.f0, q.f1, q.f2)) :
    Calls Tryz.prog 100 #[.agg #[.int .i64 3, .int .i64 c, .int .i64 k, .int .i64 i, .string s, .slice A 2 m], .pointer (some ⟨g1, 0, none⟩), .pointer (some ⟨g2, 0, none⟩)] w fun e w' => e = .returned (.bool (!q.f0 == p.f0 || (!q.f1 == p.f1 || !q.f2.toList == p.f2.toList))) ∧ Below w.heap.size w w' := by
  have hu38 := Tryz.underlying38
  have hu35 := Tryz.underlying35
  have hu27 := Tryz.underlying27
  have HE := Lib.hid he
  have H1 := Lib.hid h1
  have H2 := Lib.hid h2
  have HO := Lib.hid hof
  clear he h1 h2 hof
  go_enter Tryz.func100, Tryz.ntmps100
  have l1 := blk_lt H1.out
  have l2 := blk_lt H2.out
  have B1 := blk_alloc H1.out (.cells #[.int .i64 3, .int .i64 c, .int .i64 k, .int .i64 i, .string s, .slice A 2 m] 38)
  have hB := below_alloc (Below.refl w.heap.size w) (.cells #[.int .i64 3, .int .i64 c, .int .i64 k, .int .i64 i, .string s, .slice A 2 m] 38)
  have k1 : (w.alloc (.cells #[.int .i64 3, .int .i64 c, .int .i64 k, .int .i64 i, .string s, .slice A 2 m] 38)).cell? ⟨g1, 1, none⟩ = some (.int .i64 b) := (blk_cell B1 1).trans rfl
  go_wp2_with fail
  refine (partition_equates.calls c k i s A m b ce v0 v1 a0 a1 _ (Kd.C_below HE.out hB)).mono ?_
  rintro e w1 ⟨rfl, hb⟩
  have hB1 := below_step hB hb
  have hBx := below_alloc hB1 (.cells #[.int .i64 v1.f0, .int .i64 v1.f1, .string v1.f2] 35)
  have HW := Lib.hid (And.intro (blk_below H1.out hBx) (And.intro (blk_below H2.out hBx) (heap_alloc_new w1 (.cells #[.int .i64 v1.f0, .int .i64 v1.f1, .string v1.f2] 35))))
  have HBX := Lib.hid hBx
  clear k1 B1 hb hB hB1 hBx HE H1 H2 l1 l2
  go_wp2_with fail
  generalize w1.alloc (.cells #[.int .i64 v1.f0, .int .i64 v1.f1, .string v1.f2] 35) = W at *
  generalize w1.heap.size = g5 at *
  refine wp_region_rel 8 22 (nv1Rel2 b n v1 p q) noApart (by kernel_rfl) (by kernel_rfl) (by rfl) (nv1Rel2.stable _ _ _ _ _) ?_ ?_
  · intro vals X hX
    obtain ⟨k0, k1, k2⟩ := cell27 (blk_below HW.out.1 hX)
    obtain ⟨m0, m1, m2⟩ := cell35 (blk_below HW.out.2.1 hX)
    obtain ⟨n0, n1, n2⟩ := cell35 (blk_below HW.out.2.2 hX)
    clear hX HW HBX
    simp only [putAll, Act.put, RelSteps, List.take_succ_cons, List.take_zero, List.setIfInBounds_toArray, List.set_cons_succ, List.set_cons_zero, Option.getD_some, Nat.zero_add, Nat.reduceAdd]
    refine ⟨fun hd => ?_, fun hd => ?_, fun hd => ?_, fun hd => ?_, fun hd => ?_, fun hd => ?_, fun hd => ?_, fun hd => ?_, trivial⟩
    · clear hd
      go_wp2_with fail
      exact rel_done rfl _ rfl (by first | rfl | exact e0 | (simp [*]; done)) noApart_all (Below.refl _ _)
    · have e0 : vals 0 = _ := hd 0 (by kernel_rfl)
      clear hd
      go_wp2_with fail
      exact rel_done rfl _ rfl (by first | rfl | exact e0 | (simp [*]; done)) noApart_all (Below.refl _ _)
    · have e1 : vals 1 = _ := hd 1 (by kernel_rfl)
      clear hd
      go_wp2_with fail
      exact rel_done rfl _ rfl rfl noApart_all (Below.refl _ _)
    · have e1 : vals 1 = _ := hd 1 (by kernel_rfl)
      clear hd
      go_wp2_with fail
      exact rel_done rfl _ rfl rfl noApart_all (Below.refl _ _)
    · have e1 : vals 1 = _ := hd 1 (by kernel_rfl)
      have e2 : vals 2 = _ := hd 2 (by kernel_rfl)
      have e3 : vals 3 = _ := hd 3 (by kernel_rfl)
      clear hd
      go_wp2_with fail
      refine (partition_of.calls K 2 b n v1.f0 v1.f1 v1.f2 q.f0 q.f1 q.f2 _ HO.out).mono ?_
      rintro e w2 ⟨rfl, hb⟩
      go_wp2_with fail
      exact rel_done rfl _ rfl rfl noApart_all hb
    · have e1 : vals 1 = _ := hd 1 (by kernel_rfl)
      clear hd
      go_wp2_with fail
      exact rel_done rfl _ rfl rfl noApart_all (Below.refl _ _)
    · have e1 : vals 1 = _ := hd 1 (by kernel_rfl)
      have e4 : vals 4 = _ := hd 4 (by kernel_rfl)
      have e5 : vals 5 = _ := hd 5 (by kernel_rfl)
      clear hd
      go_wp2_with fail
      exact rel_done rfl _ rfl (by first | rfl | (simp [*]; done)) noApart_all (Below.refl _ _)
    · have e1 : vals 1 = _ := hd 1 (by kernel_rfl)
      have e6 : vals 6 = _ := hd 6 (by kernel_rfl)
      clear hd
      go_wp2_with fail
      exact rel_done rfl _ rfl (by first | rfl | exact e6 | (simp [*]; done)) noApart_all (Below.refl _ _)
  · intro vals X hX hv _
    have e7 : vals 7 = _ := hv 7 (by decide)
    have hB3 := below_step HBX.out hX
    clear hv hX HW HBX
    simp only [putAll, Act.put, List.take_succ_cons, List.take_zero, List.drop_succ_cons, List.drop_zero, List.setIfInBounds_toArray, List.set_cons_succ, List.set_cons_zero, Option.getD_some, Nat.zero_add, Nat.reduceAdd]
    simp only [e7]
    clear e7
    go_wp2_with fail
    go_ret
    exact ⟨rfl, hB3⟩
set_option maxRecDepth 100000 in
set_option maxHeartbeats 8000000 in
theorem IndexFunc_Expr (K : Nat) (b n : Int) (p q : S35) (c k i : Int) (s : ByteArray) (A1 : Option Addr) (c1 : Nat) (ce : Int) (v0 v1 : S35) (a0 a1 : List S38) (g1 g2 : Nat) (r : Bool) (hq : (!q.f0 == p.f0 || (!q.f1 == p.f1 || !q.f2.toList == p.f2.toList)) = r) (w : World)
    (hC : Kd.C k38 w A1 1 [⟨3, c, ⟨k, i, s⟩, [⟨2, b, v0, a0⟩, ⟨1, ce, v1, a1⟩]⟩])
    (h1 : w.heap[g1]? = some (.cells #[.int .i64 2, .int .i64 b, .int .i64 n] 27 (0, 0))) (h2 : w.heap[g2]? = some (.cells #[.int .i64 p.f0, .int .i64 p.f1, .string p.f2] 35 (0, 0))) (hof : partition_of.f K 2 b n v1.f0 v1.f1 v1.f2 = some (q.f0, q.f1, q.f2)) :
    Calls Tryz.prog 130 #[.slice A1 1 c1, .func (.func 100) #[] #[.pointer (some ⟨g1, 0, none⟩), .pointer (some ⟨g2, 0, none⟩)]] w fun e w' => (∃ j : Int, e = .returned (.int .i64 j) ∧ decide (0 ≤ j) = r) ∧ Below w.heap.size w w' := by
  have hu38 := Tryz.underlying38
  have hu36 := Tryz.underlying36
  obtain ⟨ad, A5, c5, e5, q0, q1, q2, q3, q4, q5, _, q7⟩ := at_T38 hC 0 (by omega) (by omega)
  subst e5
  simp only [rd_T38, Int.toNat_zero, Nat.zero_mul, List.getD_cons_zero, List.length_cons, List.length_nil] at q0 q1 q2 q3 q4 q5 q7
  have ez : ad.add 0 = ad := rfl
  simp only [ez] at q0 q1 q2 q3 q4 q5
  have HQ := Lib.hid (And.intro q0 (And.intro q1 (And.intro q2 (And.intro q3 (And.intro q4 q5)))))
  have HA := Lib.hid q7
  have H1 := Lib.hid h1
  have H2 := Lib.hid h2
  have HO := Lib.hid hof
  clear ez hC q0 q1 q2 q3 q4 q5 q7 h1 h2 hof
  go_enter Tryz.func130, Tryz.ntmps130
  go_wp2
  go_loopw [8] (fun s8 wr => (s8 = .int .i64 0 ∨ (s8 = .int .i64 1 ∧ r = false)) ∧ Below w.heap.size w wr) (fun s8 _ => 1 - (intOf s8).toNat)
  case atStart => exact ⟨.inl rfl, Below.refl _ _⟩
  case round =>
    obtain ⟨rfl | ⟨rfl, rfl⟩, hb⟩ := hrel
    · have HB := Lib.hid hb
      have q0 := bel_cell HQ.out.1 hb
      have q1 := bel_cell HQ.out.2.1 hb
      have q2 := bel_cell HQ.out.2.2.1 hb
      have q3 := bel_cell HQ.out.2.2.2.1 hb
      have q4 := bel_cell HQ.out.2.2.2.2.1 hb
      have q5 := bel_cell HQ.out.2.2.2.2.2 hb
      clear hb
      cases r with
      | true =>
        have HR := Lib.hid hq
        clear hq
        go_wp2_with (go_at_call 100; refine (partition_Never_1.calls K b n p q c k i s A5 c5 ce v0 v1 a0 a1 g1 g2 _ (Kd.C_below HA.out HB.out) (blk_below H1.out HB.out) (blk_below H2.out HB.out) HO.out).mono ?_; rw [HR.out]; rintro e w1 ⟨rfl, hb1⟩)
        go_ret
        exact ⟨⟨0, rfl, by simp⟩, below_step HB.out hb1⟩
      | false =>
        have HR := Lib.hid hq
        clear hq
        go_wp2_with (go_at_call 100; refine (partition_Never_1.calls K b n p q c k i s A5 c5 ce v0 v1 a0 a1 g1 g2 _ (Kd.C_below HA.out HB.out) (blk_below H1.out HB.out) (blk_below H2.out HB.out) HO.out).mono ?_; rw [HR.out]; rintro e w1 ⟨rfl, hb1⟩)
        go_roundw
        case rel => exact ⟨.inr ⟨rfl, by simp⟩, below_step HB.out hb1⟩
        case measure => simp [intOf]
    · go_wp2
      go_ret
      exact ⟨⟨-1, rfl, by simp⟩, hb⟩
set_option maxRecDepth 100000 in
theorem ContainsFunc_Expr (K : Nat) (b n : Int) (p q : S35) (c k i : Int) (s : ByteArray) (A1 : Option Addr) (c1 : Nat) (ce : Int) (v0 v1 : S35) (a0 a1 : List S38) (g1 g2 : Nat) (r : Bool) (hq : (!q.f0 == p.f0 || (!q.f1 == p.f1 || !q.f2.toList == p.f2.toList)) = r) (w : World)
    (hC : Kd.C k38 w A1 1 [⟨3, c, ⟨k, i, s⟩, [⟨2, b, v0, a0⟩, ⟨1, ce, v1, a1⟩]⟩])
    (h1 : w.heap[g1]? = some (.cells #[.int .i64 2, .int .i64 b, .int .i64 n] 27 (0, 0))) (h2 : w.heap[g2]? = some (.cells #[.int .i64 p.f0, .int .i64 p.f1, .string p.f2] 35 (0, 0))) (hof : partition_of.f K 2 b n v1.f0 v1.f1 v1.f2 = some (q.f0, q.f1, q.f2)) :
    Calls Tryz.prog 98 #[.slice A1 1 c1, .func (.func 100) #[] #[.pointer (some ⟨g1, 0, none⟩), .pointer (some ⟨g2, 0, none⟩)]] w fun e w' => e = .returned (.bool r) ∧ Below w.heap.size w w' := by
  have H := Lib.hid (IndexFunc_Expr K b n p q c k i s A1 c1 ce v0 v1 a0 a1 g1 g2 r hq w hC h1 h2 hof)
  clear hq hC h1 h2 hof
  go_enter Tryz.func98, Tryz.ntmps98
  go_wp2_with fail
  refine H.out.mono ?_
  rintro e w' ⟨⟨i, rfl, hi⟩, hb⟩
  have HI := Lib.hid hi
  clear hi
  go_wp2
  go_ret
  exact ⟨by simp [HI.out], hb⟩
def arr38 (op c : Int) (v : S35) (A : Option Addr) (n k : Nat) : Array Value := #[.int .i64 op, .int .i64 c, .int .i64 v.f0, .int .i64 v.f1, .string v.f2, .slice A n k]
theorem cell38 {X : World} {g : Nat} {op c : Int} {v : S35} {A : Option Addr} {n k : Nat} (h : X.heap[g]? = some (.cells (arr38 op c v A n k) 38 (0, 0))) : X.cell? ⟨g, 0, none⟩ = some (.int .i64 op) ∧ X.cell? ⟨g, 1, none⟩ = some (.int .i64 c) ∧ X.cell? ⟨g, 2, none⟩ = some (.int .i64 v.f0) ∧ X.cell? ⟨g, 3, none⟩ = some (.int .i64 v.f1) ∧ X.cell? ⟨g, 4, none⟩ = some (.string v.f2) ∧ X.cell? ⟨g, 5, none⟩ = some (.slice A n k) :=
  ⟨(blk_cell h 0).trans rfl, (blk_cell h 1).trans rfl, (blk_cell h 2).trans rfl, (blk_cell h 3).trans rfl, (blk_cell h 4).trans rfl, (blk_cell h 5).trans rfl⟩
set_option maxRecDepth 100000 in
set_option maxHeartbeats 4000000 in
theorem partition_Never.calls2 (k K : Nat) (A0 : Option Addr) (c0 : Nat) (l0 : List S63) (b n p0 p1 : Int) (p2 : ByteArray) (c kk i : Int) (s : ByteArray) (A : Option Addr) (m : Nat) (cc ce : Int) (v0 v1 : S35) (a0 a1 : List S38) (P : Nat → Prop) (w : World)
    (hr : Kd.C k63 w A0 l0.length l0) (hc : l0.length ≤ c0) (hG : Laid w) (he : Kd.V k38 38 w w.heap.size P (.slice A 2 m) [⟨2, cc, v0, a0⟩, ⟨1, ce, v1, a1⟩]) (h0 : 0 ≤ cc) (L : List S82) (e0 : Int) (hb0 : partition_Bounds.f k l0 2 b n p0 p1 p2 = some (L, e0)) (hL1 : cc < (L.length : Int)) (hn0 : bounds_Never.f K (rd_T82 L cc) v1 = some false) (hbc : b = cc) (q : S35) (hof : partition_of.f k 2 b n v1.f0 v1.f1 v1.f2 = some (q.f0, q.f1, q.f2)) (y : Bool) (hq : (!q.f0 == p0 || (!q.f1 == p1 || !q.f2.toList == p2.toList)) = y) :
    Calls Tryz.prog 57 #[.slice A0 l0.length c0, .agg #[.int .i64 2, .int .i64 b, .int .i64 n], .agg #[.int .i64 p0, .int .i64 p1, .string p2], .agg #[.int .i64 3, .int .i64 c, .int .i64 kk, .int .i64 i, .string s, .slice A 2 m]] w fun e w' => e = .returned (.bool y) ∧ Below w.heap.size w w' := by
  subst hbc
  have hu27 := Tryz.underlying27
  have hu35 := Tryz.underlying35
  have hu38 := Tryz.underlying38
  have HR := Lib.hid hr
  have HGl := Lib.hid hG
  have HE := Lib.hid he
  have HBD := Lib.hid hb0
  have HN := Lib.hid hn0
  have HOF := Lib.hid hof
  have HQ := Lib.hid hq
  clear hr hG he hb0 hn0 hof hq
  go_enter Tryz.func57, Tryz.ntmps57
  go_wp2_with fail
  have B0 := blk_alloc (blk_alloc (heap_alloc_new w (.cells #[.int .i64 2, .int .i64 b, .int .i64 n] 27)) (.cells #[.int .i64 p0, .int .i64 p1, .string p2] 35)) (.cells #[.int .i64 3, .int .i64 c, .int .i64 kk, .int .i64 i, .string s, .slice A 2 m] 38)
  have B2 := heap_alloc_new ((w.alloc (.cells #[.int .i64 2, .int .i64 b, .int .i64 n] 27)).alloc (.cells #[.int .i64 p0, .int .i64 p1, .string p2] 35)) (.cells #[.int .i64 3, .int .i64 c, .int .i64 kk, .int .i64 i, .string s, .slice A 2 m] 38)
  have B1 := blk_alloc (heap_alloc_new (w.alloc (.cells #[.int .i64 2, .int .i64 b, .int .i64 n] 27)) (.cells #[.int .i64 p0, .int .i64 p1, .string p2] 35)) (.cells #[.int .i64 3, .int .i64 c, .int .i64 kk, .int .i64 i, .string s, .slice A 2 m] 38)
  simp only [World.size_alloc] at B1 B2
  have hB := below_alloc (below_alloc (below_alloc (Below.refl w.heap.size w) (.cells #[.int .i64 2, .int .i64 b, .int .i64 n] 27)) (.cells #[.int .i64 p0, .int .i64 p1, .string p2] 35)) (.cells #[.int .i64 3, .int .i64 c, .int .i64 kk, .int .i64 i, .string s, .slice A 2 m] 38)
  generalize ((w.alloc (.cells #[.int .i64 2, .int .i64 b, .int .i64 n] 27)).alloc (.cells #[.int .i64 p0, .int .i64 p1, .string p2] 35)).alloc (.cells #[.int .i64 3, .int .i64 c, .int .i64 kk, .int .i64 i, .string s, .slice A 2 m] 38) = W at *
  refine (partition_Bounds.calls k A0 c0 l0 2 b n p0 p1 p2 L e0 W (Kd.C_below HR.out hB) hc (HGl.out.below hB) HBD.out).mono ?_
  rintro e w2 ⟨AL, cL, rfl, hC, hcL, hb2, _⟩
  have hB2 := below_step hB hb2
  have E0 := blk_below B0 hb2
  have E2 := blk_below B2 hb2
  have g0 : w2.cell? ⟨w.heap.size, 0, none⟩ = some (.int .i64 2) := (blk_cell E0 0).trans rfl
  have m0 : w2.cell? ⟨w.heap.size + 1 + 1, 0, none⟩ = some (.int .i64 3) := (blk_cell E2 0).trans rfl
  have m1 : w2.cell? ⟨w.heap.size + 1 + 1, 1, none⟩ = some (.int .i64 c) := (blk_cell E2 1).trans rfl
  have m2 : w2.cell? ⟨w.heap.size + 1 + 1, 2, none⟩ = some (.int .i64 kk) := (blk_cell E2 2).trans rfl
  have m3 : w2.cell? ⟨w.heap.size + 1 + 1, 3, none⟩ = some (.int .i64 i) := (blk_cell E2 3).trans rfl
  have m4 : w2.cell? ⟨w.heap.size + 1 + 1, 4, none⟩ = some (.string s) := (blk_cell E2 4).trans rfl
  have m5 : w2.cell? ⟨w.heap.size + 1 + 1, 5, none⟩ = some (.slice A 2 m) := (blk_cell E2 5).trans rfl
  have HC := Lib.hid hC
  have HB2 := Lib.hid hB2
  have EE := Lib.hid E0
  have EE2 := Lib.hid E2
  have EE1 := Lib.hid (blk_below B1 hb2)
  have hV : Kd.V k38 38 w2 w2.heap.size P (.slice A 2 m) [⟨2, b, v0, a0⟩, ⟨1, ce, v1, a1⟩] := Kd.V_map HE.out (fun _ hf => Kd.F_below hf hB2)
  have HV := Lib.hid hV
  clear B0 B1 B2 hB hb2 hB2 E0 E2 hC hV HR HGl HBD
  go_wp2_with fail
  refine (bounds_Never.calls K AL cL L c kk i s A m b ce v0 v1 a0 a1 P w2 HC.out HV.out h0 hL1 false HN.out).mono ?_
  rintro e w3 ⟨rfl, hb3⟩
  have hB3 := below_step HB2.out hb3
  have F0 := blk_below EE.out hb3
  have F1 := blk_below EE1.out hb3
  have F2 := blk_below EE2.out hb3
  have g0 : w3.cell? ⟨w.heap.size, 0, none⟩ = some (.int .i64 2) := (blk_cell F0 0).trans rfl
  obtain ⟨m0, m1, m2, m3, m4, m5⟩ := cell38 (v := ⟨kk, i, s⟩) (show w3.heap[w.heap.size + 1 + 1]? = some (.cells (arr38 3 c ⟨kk, i, s⟩ A 2 m) 38 (0, 0)) from F2)
  have hV3 : Kd.V k38 38 w3 w3.heap.size P (.slice A ([⟨2, b, v0, a0⟩, ⟨1, ce, v1, a1⟩] : List S38).length m) [⟨2, b, v0, a0⟩, ⟨1, ce, v1, a1⟩] := Kd.V_map HE.out (fun _ hf => Kd.F_below hf hB3)
  have HV3 := Lib.hid hV3
  have HB3 := Lib.hid hB3
  have HF0 := Lib.hid F0
  have HF1 := Lib.hid F1
  clear EE EE1 EE2 HB2 hb3 HC HV HN hB3 F0 F1 F2 hV3 HE
  go_wp2_with fail
  refine (expr_Conjuncts.calls 1 3 c kk i s P A m [⟨2, b, v0, a0⟩, ⟨1, ce, v1, a1⟩] [⟨3, c, ⟨kk, i, s⟩, [⟨2, b, v0, a0⟩, ⟨1, ce, v1, a1⟩]⟩] _ HV3.out (by simp [expr_Conjuncts.f])).mono ?_
  rintro e w4 ⟨v, rfl, hN, hb⟩
  obtain ⟨A1, c1, rfl⟩ := Kd.V_slice (Kd.N_V (base' := 0) hN)
  have hC1 := (Kd.V_reads' (Kd.N_V (base' := 0) hN)).2.2
  have HC1 := Lib.hid hC1
  replace HF0 := Lib.hid (blk_below HF0.out hb)
  replace HF1 := Lib.hid (blk_below HF1.out hb)
  replace HB3 := Lib.hid (below_step HB3.out hb)
  clear hN hC1 hb HV3 g0 m0 m1 m2 m3 m4 m5
  simp only [List.length_cons, List.length_nil, Nat.zero_add, Nat.reduceAdd]
  go_wp2_with fail
  refine (ContainsFunc_Expr k b n ⟨p0, p1, p2⟩ q c kk i s A1 c1 ce v0 v1 a0 a1 w.heap.size (w.heap.size + 1) y HQ.out w4 HC1.out HF0.out HF1.out HOF.out).mono ?_
  rintro e w5 ⟨rfl, hb⟩
  have hB5 := below_step HB3.out hb
  clear HC1 HF0 HF1 HB3 hb HQ HOF
  go_wp2_with fail
  go_ret
  exact ⟨rfl, hB5⟩
set_option maxRecDepth 100000 in
set_option maxHeartbeats 4000000 in
theorem chapmanlaw32_never.calls2 (k K : Nat) (A0 : Option Addr) (c0 : Nat) (l0 : List S63) (b n p0 p1 : Int) (p2 : ByteArray) (c kk i : Int) (s : ByteArray) (A : Option Addr) (m : Nat) (cc ce : Int) (v0 v1 : S35) (a0 a1 : List S38) (P : Nat → Prop) (w : World)
    (hr : Kd.C k63 w A0 l0.length l0) (hc : l0.length ≤ c0) (hG : Laid w) (he : Kd.V k38 38 w w.heap.size P (.slice A 2 m) [⟨2, cc, v0, a0⟩, ⟨1, ce, v1, a1⟩]) (h0 : 0 ≤ cc) (L : List S82) (e0 : Int) (hb0 : partition_Bounds.f k l0 2 b n p0 p1 p2 = some (L, e0)) (hL1 : cc < (L.length : Int)) (hn0 : bounds_Never.f K (rd_T82 L cc) v1 = some false) (hbc : b = cc) (q : S35) (hof : partition_of.f k 2 b n v1.f0 v1.f1 v1.f2 = some (q.f0, q.f1, q.f2)) (y : Bool) (hq : (!q.f0 == p0 || (!q.f1 == p1 || !q.f2.toList == p2.toList)) = y) :
    Calls Tryz.prog 28 #[.slice A0 l0.length c0, .agg #[.int .i64 2, .int .i64 b, .int .i64 n, .int .i64 p0, .int .i64 p1, .string p2, .int .i64 3, .int .i64 c, .int .i64 kk, .int .i64 i, .string s, .slice A 2 m]] w fun e w' => e = .returned (.bool y) ∧ Below w.heap.size w w' := by
  have hu61 := Tryz.underlying61
  have HR := Lib.hid hr
  have HGl := Lib.hid hG
  have HE := Lib.hid he
  have HQ := Lib.hid hq
  have HBD := Lib.hid hb0
  have HN0 := Lib.hid hn0
  have HOF := Lib.hid hof
  have HBC := Lib.hid hbc
  clear hr hG he hq hb0 hn0 hof hbc
  go_enter Tryz.func28, Tryz.ntmps28
  go_wp2_with fail
  have hB := below_alloc (Below.refl w.heap.size w) (.cells #[.int .i64 2, .int .i64 b, .int .i64 n, .int .i64 p0, .int .i64 p1, .string p2, .int .i64 3, .int .i64 c, .int .i64 kk, .int .i64 i, .string s, .slice A 2 m] 61)
  generalize w.alloc (.cells #[.int .i64 2, .int .i64 b, .int .i64 n, .int .i64 p0, .int .i64 p1, .string p2, .int .i64 3, .int .i64 c, .int .i64 kk, .int .i64 i, .string s, .slice A 2 m] 61) = W at *
  have hV : Kd.V k38 38 W W.heap.size P (.slice A 2 m) [⟨2, cc, v0, a0⟩, ⟨1, ce, v1, a1⟩] := Kd.V_map HE.out (fun _ hf => Kd.F_below hf hB)
  refine (partition_Never.calls2 k K A0 c0 l0 b n p0 p1 p2 c kk i s A m cc ce v0 v1 a0 a1 P W (Kd.C_below HR.out hB) hc (HGl.out.below hB) hV h0 L e0 HBD.out hL1 HN0.out HBC.out q HOF.out y HQ.out).mono ?_
  rintro e w2 ⟨rfl, hb2⟩
  have hB2 := below_step hB hb2
  clear hB hV hb2
  go_wp2
  go_ret
  exact ⟨rfl, hB2⟩
theorem one35 {X : World} {g : Nat} {x : S35} (h : X.heap[g]? = some (.cells #[.int .i64 x.f0, .int .i64 x.f1, .string x.f2] 35 (0, 0))) : Kd.C k35 X (some ⟨g, 0, none⟩) ([x] : List S35).length [x] :=
  C_rows k35 (cs := [[.int .i64 x.f0, .int .i64 x.f1, .string x.f2]]) h ⟨⟨rfl, k35_mk X x⟩, trivial⟩ (by simp)
theorem one63 {X : World} {g : Nat} {t : S63} (h : X.heap[g]? = some (.cells #[.int .i64 t.f0, .int .i64 t.f1, .bool t.f2] 63 (0, 0))) : Kd.C k63 X (some ⟨g, 0, none⟩) ([t] : List S63).length [t] :=
  C_rows k63 (cs := [[.int .i64 t.f0, .int .i64 t.f1, .bool t.f2]]) h ⟨⟨rfl, k63_mk X t⟩, trivial⟩ (by simp)
def SlcAt (x : S35) (v : Value) (X : World) : Prop := ∃ g, v = .slice (some ⟨g, 0, none⟩) 1 1 ∧ X.heap[g]? = some (.cells #[.int .i64 x.f0, .int .i64 x.f1, .string x.f2] 35 (0, 0))
theorem SlcAt.below {x : S35} {v : Value} {X Y : World} (h : SlcAt x v X) (hb : Below X.heap.size X Y) : SlcAt x v Y := h.imp fun _ h => ⟨h.1, blk_below h.2 hb⟩
def EqAt (v1 : S35) (pre : List Value) (v : Value) (X : World) : Prop := ∃ A m, v = Value.agg (pre ++ [Value.int .i64 3, Value.int .i64 0, Value.int .i64 0, Value.int .i64 0, Value.string ⟨#[]⟩, Value.slice A 2 m]).toArray ∧ Kd.V k38 38 X X.heap.size (fun _ => True) (.slice A 2 m) [⟨2, 0, ⟨0, 0, ⟨#[]⟩⟩, []⟩, ⟨1, 0, v1, []⟩]
theorem EqAt.below {v1 : S35} {pre : List Value} {v : Value} {X Y : World} (h : EqAt v1 pre v X) (hb : Below X.heap.size X Y) : EqAt v1 pre v Y := by
  obtain ⟨A, m, e, hV⟩ := h
  exact ⟨A, m, e, Kd.V_map hV (fun _ hf => Kd.F_below hf hb)⟩
structure BkC (gT b9 a10 a11 : Nat) (k1 : Int) (N : Int) (v u : S35) (X : World) : Prop where
  laid : Laid X
  ty : X.heap[gT]? = some (.cells #[.int .i64 k1, .int .i64 0, .bool false] 63 (0, 0))
  sp : X.heap[b9]? = some (.cells #[.int .i64 2, .int .i64 0, .int .i64 N] 27 (0, 0))
  v : X.heap[a10]? = some (.cells #[.int .i64 v.f0, .int .i64 v.f1, .string v.f2] 35 (0, 0))
  u : X.heap[a11]? = some (.cells #[.int .i64 u.f0, .int .i64 u.f1, .string u.f2] 35 (0, 0))
theorem BkC.below {gT b9 a10 a11 : Nat} {k1 : Int} {N : Int} {v u : S35} {X Y : World} (h : BkC gT b9 a10 a11 k1 N v u X) (hb : Below X.heap.size X Y) : BkC gT b9 a10 a11 k1 N v u Y :=
  ⟨h.laid.below hb, blk_below h.ty hb, blk_below h.sp hb, blk_below h.v hb, blk_below h.u hb⟩
structure BkD (gT b9 a10 a11 a12 a13 : Nat) (k1 : Int) (N : Int) (v u p q : S35) (X : World) : Prop where
  c : BkC gT b9 a10 a11 k1 N v u X
  p : X.heap[a12]? = some (.cells #[.int .i64 p.f0, .int .i64 p.f1, .string p.f2] 35 (0, 0))
  q : X.heap[a13]? = some (.cells #[.int .i64 q.f0, .int .i64 q.f1, .string q.f2] 35 (0, 0))
theorem BkD.below {gT b9 a10 a11 a12 a13 : Nat} {k1 : Int} {N : Int} {v u p q : S35} {X Y : World} (h : BkD gT b9 a10 a11 a12 a13 k1 N v u p q X) (hb : Below X.heap.size X Y) : BkD gT b9 a10 a11 a12 a13 k1 N v u p q Y :=
  ⟨h.c.below hb, blk_below h.p hb, blk_below h.q hb⟩
theorem whole_f {i : Nat} (h : i < 1000000) : chapmanref06_Whole.f (i : Int) = some (2, (i : Int) * 1000000, ⟨#[]⟩) := by
  have hw : wrap64 ((i : Int) * 1000000) = (i : Int) * 1000000 := by unfold wrap64; omega
  unfold chapmanref06_Whole.f chapmanref06_Num.f
  rw [hw]
  rfl
theorem cell_three_new (w : World) (a b c : Value) (t : TypeId) : ∀ q u, ([a, b, c])[q]? = some u → (w.alloc (.cells #[a, b, c] t)).cell? ((⟨w.heap.size, 0, none⟩ : Addr).add q) = some u := by
  intro q u h
  have h0 := heap_alloc_new w (.cells #[a, b, c] t)
  have h1 := blk_cell h0 q
  match q, h with
  | 0, h => obtain rfl := Option.some.inj h; exact h1.trans rfl
  | 1, h => obtain rfl := Option.some.inj h; exact h1.trans rfl
  | 2, h => obtain rfl := Option.some.inj h; exact h1.trans rfl
theorem bk_inc {i : Nat} (h : i < 1000000) : Value.int .i64 (wrap64 ((i : Int) + 1)) = .int .i64 ((i + 1 : Nat) : Int) := by
  congr 1
  unfold wrap64
  omega
theorem bk_end1 {i m : Nat} (h : i < m) : m - (intOf (.int .i64 ((i + 1 : Nat) : Int))).toNat < m - (intOf (.int .i64 (i : Int))).toNat := by
  simp [intOf]
  omega
def bkRel6 (M gT b5 : Nat) (k1 b0 b1 b2 b3 : Int) (v0 u0 : S35) (ix : Nat) (v : Value) (X : World) : Prop := match ix with
  | 0 => v = .slice (some ⟨gT, 0, none⟩) 1 1
  | 1 => v = .pointer (some ⟨gT, 0, none⟩)
  | 2 => v = .agg #[.int .i64 k1, .int .i64 0, .bool false]
  | 3 => v = .pointer (some ⟨b5, 0, none⟩)
  | 4 => v = .int .u8 b0
  | 5 => v = .pointer (some ⟨b5, 1, none⟩)
  | 6 => v = .int .u8 b1
  | 7 => v = .agg #[.int .u8 b0, .int .u8 b1]
  | 8 => v = .agg #[.int .i64 v0.f0, .int .i64 v0.f1, .string v0.f2]
  | 9 => v = .slice (some ⟨gT, 0, none⟩) 1 1
  | 10 => v = .pointer (some ⟨gT, 0, none⟩)
  | 11 => v = .agg #[.int .i64 k1, .int .i64 0, .bool false]
  | 12 => v = .pointer (some ⟨b5, 2, none⟩)
  | 13 => v = .int .u8 b2
  | 14 => v = .pointer (some ⟨b5, 3, none⟩)
  | 15 => v = .int .u8 b3
  | 16 => v = .agg #[.int .u8 b2, .int .u8 b3]
  | 17 => v = .agg #[.int .i64 u0.f0, .int .i64 u0.f1, .string u0.f2]
  | 18 => AtBlk M 35 zero35 v X
  | 19 => AtBlk M 35 zero35 v X
  | _ => True
theorem bkRel6.stable (M gT b5 : Nat) (k1 b0 b1 b2 b3 : Int) (v0 u0 : S35) : ∀ ix v X Y, Below X.heap.size X Y → bkRel6 M gT b5 k1 b0 b1 b2 b3 v0 u0 ix v X → bkRel6 M gT b5 k1 b0 b1 b2 b3 v0 u0 ix v Y := by
  intro ix v X Y hb h
  match ix, h with
  | 0, h => exact h
  | 1, h => exact h
  | 2, h => exact h
  | 3, h => exact h
  | 4, h => exact h
  | 5, h => exact h
  | 6, h => exact h
  | 7, h => exact h
  | 8, h => exact h
  | 9, h => exact h
  | 10, h => exact h
  | 11, h => exact h
  | 12, h => exact h
  | 13, h => exact h
  | 14, h => exact h
  | 15, h => exact h
  | 16, h => exact h
  | 17, h => exact h
  | 18, h => exact AtBlk.below h hb
  | 19, h => exact AtBlk.below h hb
  | ix + 20, _ => exact trivial
def bkRel7 (M : Nat) (N : Int) (v0 u0 p q : S35) (ix : Nat) (v : Value) (X : World) : Prop := match ix with
  | 0 => v = .agg #[.int .i64 2, .int .i64 0, .int .i64 N]
  | 1 => v = .agg #[.int .i64 v0.f0, .int .i64 v0.f1, .string v0.f2]
  | 2 => SlcAt v0 v X
  | 3 => v = .agg #[.int .i64 p.f0, .int .i64 p.f1, .string p.f2]
  | 4 => v = .agg #[.int .i64 2, .int .i64 0, .int .i64 N]
  | 5 => v = .agg #[.int .i64 u0.f0, .int .i64 u0.f1, .string u0.f2]
  | 6 => SlcAt u0 v X
  | 7 => v = .agg #[.int .i64 q.f0, .int .i64 q.f1, .string q.f2]
  | 8 => AtBlk M 35 zero35 v X
  | 9 => AtBlk M 35 zero35 v X
  | _ => True
theorem bkRel7.stable (M : Nat) (N : Int) (v0 u0 p q : S35) : ∀ ix v X Y, Below X.heap.size X Y → bkRel7 M N v0 u0 p q ix v X → bkRel7 M N v0 u0 p q ix v Y := by
  intro ix v X Y hb h
  match ix, h with
  | 0, h => exact h
  | 1, h => exact h
  | 2, h => exact SlcAt.below h hb
  | 3, h => exact h
  | 4, h => exact h
  | 5, h => exact h
  | 6, h => exact SlcAt.below h hb
  | 7, h => exact h
  | 8, h => exact AtBlk.below h hb
  | 9, h => exact AtBlk.below h hb
  | ix + 10, _ => exact trivial
def bkRel8 (gT b9 : Nat) (N : Int) (v0 u0 p q : S35) (ve n1 : Bool) (ix : Nat) (v : Value) (X : World) : Prop := match ix with
  | 0 => v = .agg #[.int .i64 v0.f0, .int .i64 v0.f1, .string v0.f2]
  | 1 => v = .agg #[.int .i64 u0.f0, .int .i64 u0.f1, .string u0.f2]
  | 2 => v = .bool ve
  | 3 => v = .bool ve
  | 4 => (ve = true → v = .agg #[.int .i64 p.f0, .int .i64 p.f1, .string p.f2])
  | 5 => (ve = true → v = .agg #[.int .i64 q.f0, .int .i64 q.f1, .string q.f2])
  | 6 => (ve = true → v = .bool false)
  | 7 => v = .bool false
  | 8 => v = .bool false
  | 9 => v = .pointer (some ⟨b9, 2, none⟩)
  | 10 => v = .int .i64 N
  | 11 => v = .bool n1
  | 12 => v = .bool n1
  | 13 => (n1 = true → v = .agg #[.int .i64 p.f0, .int .i64 p.f1, .string p.f2])
  | 14 => (n1 = true → v = .agg #[.int .i64 2, .int .i64 0, .string ⟨#[]⟩])
  | 15 => (n1 = true → v = .bool false)
  | 16 => v = .bool false
  | 17 => v = .bool false
  | 18 => v = .bool false
  | 19 => v = .slice (some ⟨gT, 0, none⟩) 1 1
  | 20 => v = .agg #[.int .i64 2, .int .i64 0, .int .i64 N]
  | 21 => v = .bool true
  | 22 => v = .bool false
  | 23 => v = .bool false
  | _ => True
theorem bkRel8.stable (gT b9 : Nat) (N : Int) (v0 u0 p q : S35) (ve n1 : Bool) : ∀ ix v X Y, Below X.heap.size X Y → bkRel8 gT b9 N v0 u0 p q ve n1 ix v X → bkRel8 gT b9 N v0 u0 p q ve n1 ix v Y := by
  intro ix v X Y hb h
  match ix, h with
  | 0, h => exact h
  | 1, h => exact h
  | 2, h => exact h
  | 3, h => exact h
  | 4, h => exact h
  | 5, h => exact h
  | 6, h => exact h
  | 7, h => exact h
  | 8, h => exact h
  | 9, h => exact h
  | 10, h => exact h
  | 11, h => exact h
  | 12, h => exact h
  | 13, h => exact h
  | 14, h => exact h
  | 15, h => exact h
  | 16, h => exact h
  | 17, h => exact h
  | 18, h => exact h
  | 19, h => exact h
  | 20, h => exact h
  | 21, h => exact h
  | 22, h => exact h
  | 23, h => exact h
  | ix + 24, _ => exact trivial
def bkRel14 (gT i : Nat) (N : Int) (ix : Nat) (v : Value) (X : World) : Prop := match ix with
  | 0 => v = .slice (some ⟨gT, 0, none⟩) 1 1
  | 1 => v = .agg #[.int .i64 2, .int .i64 0, .int .i64 N]
  | 2 => v = .int .i64 (i : Int)
  | 3 => v = .agg #[.int .i64 2, .int .i64 ((i : Int) * 1000000), .string ⟨#[]⟩]
  | 4 => v = .bool true
  | 5 => v = .bool false
  | _ => True
theorem bkRel14.stable (gT i : Nat) (N : Int) : ∀ ix v X Y, Below X.heap.size X Y → bkRel14 gT i N ix v X → bkRel14 gT i N ix v Y := by
  intro ix v X Y hb h
  match ix, h with
  | 0, h => exact h
  | 1, h => exact h
  | 2, h => exact h
  | 3, h => exact h
  | 4, h => exact h
  | 5, h => exact h
  | ix + 6, _ => exact trivial
def bkRel16 (gT i : Nat) (N : Int) (v1 : S35) (y : Bool) (ix : Nat) (v : Value) (X : World) : Prop := match ix with
  | 0 => v = .slice (some ⟨gT, 0, none⟩) 1 1
  | 1 => v = .agg #[.int .i64 2, .int .i64 0, .int .i64 N]
  | 2 => v = .int .i64 (i : Int)
  | 3 => v = .agg #[.int .i64 2, .int .i64 ((i : Int) * 1000000), .string ⟨#[]⟩]
  | 4 => v = .agg #[.int .i64 v1.f0, .int .i64 v1.f1, .string v1.f2]
  | 5 => EqAt v1 [] v X
  | 6 => EqAt v1 [.int .i64 2, .int .i64 0, .int .i64 N, .int .i64 2, .int .i64 ((i : Int) * 1000000), .string ⟨#[]⟩] v X
  | 7 => v = .bool y
  | 8 => v = .bool (!y)
  | _ => True
theorem bkRel16.stable (gT i : Nat) (N : Int) (v1 : S35) (y : Bool) : ∀ ix v X Y, Below X.heap.size X Y → bkRel16 gT i N v1 y ix v X → bkRel16 gT i N v1 y ix v Y := by
  intro ix v X Y hb h
  match ix, h with
  | 0, h => exact h
  | 1, h => exact h
  | 2, h => exact h
  | 3, h => exact h
  | 4, h => exact h
  | 5, h => exact EqAt.below h hb
  | 6, h => exact EqAt.below h hb
  | 7, h => exact h
  | 8, h => exact h
  | ix + 9, _ => exact trivial
def bkRel18 (gT b9 N : Nat) (AO : Option Addr) (cO : Nat) (p : S35) (ix : Nat) (v : Value) (X : World) : Prop := match ix with
  | 0 => v = .slice AO 1 cO
  | 1 => v = .agg #[.int .i64 p.f0, .int .i64 p.f1, .string p.f2]
  | 2 => SlcAt p v X
  | 3 => v = .bool true
  | 4 => v = .bool true
  | 5 => v = .slice (some ⟨gT, 0, none⟩) 1 1
  | 6 => v = .agg #[.int .i64 2, .int .i64 0, .int .i64 N]
  | 7 => v = .pointer (some ⟨b9, 2, none⟩)
  | 8 => v = .int .i64 (N : Int)
  | 9 => v = .agg #[.int .i64 2, .int .i64 ((N : Int) * 1000000), .string ⟨#[]⟩]
  | 10 => v = .bool false
  | 11 => v = .bool true
  | 12 => v = .bool true
  | 13 => v = .bool true
  | 14 => v = .bool true
  | 15 => v = .bool true
  | _ => True
theorem bkRel18.stable (gT b9 N : Nat) (AO : Option Addr) (cO : Nat) (p : S35) : ∀ ix v X Y, Below X.heap.size X Y → bkRel18 gT b9 N AO cO p ix v X → bkRel18 gT b9 N AO cO p ix v Y := by
  intro ix v X Y hb h
  match ix, h with
  | 0, h => exact h
  | 1, h => exact h
  | 2, h => exact SlcAt.below h hb
  | 3, h => exact h
  | 4, h => exact h
  | 5, h => exact h
  | 6, h => exact h
  | 7, h => exact h
  | 8, h => exact h
  | 9, h => exact h
  | 10, h => exact h
  | 11, h => exact h
  | 12, h => exact h
  | 13, h => exact h
  | 14, h => exact h
  | 15, h => exact h
  | ix + 16, _ => exact trivial
set_option maxRecDepth 100000 in
set_option maxHeartbeats 16000000 in
theorem chapmanlaw32_PartitionBuckets.calls (kd nn b0 b1 b2 b3 : Int) (w : World) (hG : Laid w) (hkd : 0 ≤ kd ∧ kd < 256) (hnn : 0 ≤ nn ∧ nn < 256)
    (k1 : Int) (hk1 : 1 + kd % 3 = k1) (N : Nat) (hN : 1 + nn % 64 = (N : Int)) (hN64 : N ≤ 64) (v u p q : S35)
    (hv : chapmanref06_Value.f 100 k1 0 false b0 b1 = some (v.f0, v.f1, v.f2)) (hu : chapmanref06_Value.f 100 k1 0 false b2 b3 = some (u.f0, u.f1, u.f2))
    (hof : partition_of.f 100 2 0 (N : Int) v.f0 v.f1 v.f2 = some (p.f0, p.f1, p.f2))
    (hp : partition_Of.f 100 2 0 (N : Int) [v] = some (p.f0, p.f1, p.f2)) (hq : partition_Of.f 100 2 0 (N : Int) [u] = some (q.f0, q.f1, q.f2))
    (hvu : (v.f0 == u.f0 && (v.f1 == u.f1 && v.f2.toList == u.f2.toList)) = true → (p.f0 == q.f0 && (p.f1 == q.f1 && p.f2.toList == q.f2.toList)) = true)
    (hval : partition_Valid.f [⟨k1, 0, false⟩] 2 0 (N : Int) = some true) (B : Nat) (hBN : B < N) (hpB : p = ⟨2, (B : Int) * 1000000, ⟨#[]⟩⟩) (L : List S82) (hL : (0 : Int) < (L.length : Int)) (hbn : bounds_Never.f 100 (rd_T82 L 0) v = some false)
    (hbd : ∀ i : Nat, i < N → partition_Possible.f 100 [⟨k1, 0, false⟩] 2 0 (N : Int) 2 ((i : Int) * 1000000) ⟨#[]⟩ = some true ∧ partition_Bounds.f 100 [⟨k1, 0, false⟩] 2 0 (N : Int) 2 ((i : Int) * 1000000) ⟨#[]⟩ = some (L, 0))
    (hno : partition_Possible.f 100 [⟨k1, 0, false⟩] 2 0 (N : Int) 2 ((N : Int) * 1000000) ⟨#[]⟩ = some false) (hcm : chapmanref06_Cmp.f 100 p.f0 p.f1 p.f2 p.f0 p.f1 p.f2 = some 0) :
    Calls Tryz.prog 6 #[.int .u8 kd, .int .u8 nn, .agg #[.int .u8 b0, .int .u8 b1, .int .u8 b2, .int .u8 b3]] w fun e w' => e = .returned (.bool true) ∧ Below w.heap.size w w' := by
  have hu77 := Tryz.underlying77
  have hu63 := Tryz.underlying63
  have hu70 := Tryz.underlying70
  have hu27 := Tryz.underlying27
  have hu25 := Tryz.underlying25
  have hu35 := Tryz.underlying35
  have hu28 := Tryz.underlying28
  have hu5 := Tryz.underlying5
  have hu61 := Tryz.underlying61
  obtain ⟨i0, hi, hz0, hz1, hz2⟩ := info_parts info35'
  have HGl := Lib.hid hG
  have HK1 := Lib.hid hk1
  have HN := Lib.hid hN
  have HN64 := Lib.hid hN64
  have HV := Lib.hid hv
  have HU := Lib.hid hu
  have HOF := Lib.hid hof
  have HP := Lib.hid hp
  have HQ := Lib.hid hq
  have HVU := Lib.hid hvu
  have HVAL := Lib.hid hval
  have HBN0 := Lib.hid hBN
  have HPB := Lib.hid hpB
  have HL := Lib.hid hL
  have HBN := Lib.hid hbn
  have HBDS := Lib.hid hbd
  have HNO := Lib.hid hno
  have HCM := Lib.hid hcm
  clear hG hk1 hN hN64 hv hu hof hp hq hvu hval hBN hpB hL hbn hbd hno hcm
  go_enter Tryz.func6, Tryz.ntmps6
  go_wp2_with fail
  have E5 := heap_alloc_new w (.cells #[.int .u8 b0, .int .u8 b1, .int .u8 b2, .int .u8 b3] 77)
  have hB := below_alloc (Below.refl w.heap.size w) (.cells #[.int .u8 b0, .int .u8 b1, .int .u8 b2, .int .u8 b3] 77)
  generalize w.alloc (.cells #[.int .u8 b0, .int .u8 b1, .int .u8 b2, .int .u8 b3] 77) = W at *
  refine (chapmanlaw32_examples.calls W (HGl.out.below hB)).mono ?_
  rintro e w1 ⟨rfl, hb⟩
  have HB := Lib.hid (below_step hB hb)
  have HE5 := Lib.hid (blk_below E5 hb)
  replace HGl := Lib.hid (HGl.out.below HB.out)
  clear hb hB E5 W
  go_upto_region 6 with (fail)
  simp only [HK1.out, HN.out]
  have hB2 := below_alloc (below_alloc (Below.refl w1.heap.size w1) (.cells #[.int .i64 k1, .int .i64 0, .bool false] 63)) (.cells #[.int .i64 2, .int .i64 0, .int .i64 (N : Int)] 27)
  have HTY := Lib.hid (blk_alloc (heap_alloc_new w1 (.cells #[.int .i64 k1, .int .i64 0, .bool false] 63)) (.cells #[.int .i64 2, .int .i64 0, .int .i64 (N : Int)] 27))
  have hSP := heap_alloc_new (w1.alloc (.cells #[.int .i64 k1, .int .i64 0, .bool false] 63)) (.cells #[.int .i64 2, .int .i64 0, .int .i64 (N : Int)] 27)
  simp only [World.size_alloc] at hSP
  have HSP := Lib.hid hSP
  have HBA := Lib.hid (below_step HB.out hB2)
  replace HE5 := Lib.hid (blk_below HE5.out hB2)
  replace HGl := Lib.hid (HGl.out.below hB2)
  clear hB2 hSP HB
  generalize (w1.alloc (.cells #[.int .i64 k1, .int .i64 0, .bool false] 63)).alloc (.cells #[.int .i64 2, .int .i64 0, .int .i64 (N : Int)] 27) = W at *
  generalize w1.heap.size + 1 = b9 at *
  generalize w1.heap.size = gT at *
  clear w1
  refine wp_region_rel 20 123 (bkRel6 W.heap.size gT w.heap.size k1 b0 b1 b2 b3 v u) (apart2 18 19) (by kernel_rfl) (by kernel_rfl) (by rfl) (bkRel6.stable _ _ _ _ _ _ _ _ _ _) ?_ ?_
  · intro vals X hX
    have HM := Lib.hid hX.size
    obtain ⟨k0, k2, k3⟩ : X.cell? ⟨gT, 0, none⟩ = some (.int .i64 k1) ∧ X.cell? ⟨gT, 1, none⟩ = some (.int .i64 0) ∧ X.cell? ⟨gT, 2, none⟩ = some (.bool false) := ⟨(blk_cell (blk_below HTY.out hX) 0).trans rfl, (blk_cell (blk_below HTY.out hX) 1).trans rfl, (blk_cell (blk_below HTY.out hX) 2).trans rfl⟩
    obtain ⟨m0, m1, m2, m3⟩ : X.cell? ⟨w.heap.size, 0, none⟩ = some (.int .u8 b0) ∧ X.cell? ⟨w.heap.size, 1, none⟩ = some (.int .u8 b1) ∧ X.cell? ⟨w.heap.size, 2, none⟩ = some (.int .u8 b2) ∧ X.cell? ⟨w.heap.size, 3, none⟩ = some (.int .u8 b3) := ⟨(blk_cell (blk_below HE5.out hX) 0).trans rfl, (blk_cell (blk_below HE5.out hX) 1).trans rfl, (blk_cell (blk_below HE5.out hX) 2).trans rfl, (blk_cell (blk_below HE5.out hX) 3).trans rfl⟩
    clear hX HBA HTY HE5 HSP HGl
    simp only [putAll, Act.put, RelSteps, List.take_succ_cons, List.take_zero, List.setIfInBounds_toArray, List.set_cons_succ, List.set_cons_zero, Option.getD_some, Nat.zero_add, Nat.reduceAdd]
    refine ⟨fun hd => ?_, fun hd => ?_, fun hd => ?_, fun hd => ?_, fun hd => ?_, fun hd => ?_, fun hd => ?_, fun hd => ?_, fun hd => ?_, fun hd => ?_, fun hd => ?_, fun hd => ?_, fun hd => ?_, fun hd => ?_, fun hd => ?_, fun hd => ?_, fun hd => ?_, fun hd => ?_, fun hd => ?_, fun hd => ?_, trivial⟩
    · clear hd
      go_wp2_with fail
      exact rel_done rfl _ rfl (by first | rfl | exact e0 | (simp [*]; done)) (apart2_none (by decide) (by decide)) (Below.refl _ _)
    · have e0 : vals 0 = _ := hd 0 (by kernel_rfl)
      clear hd
      go_wp2_with fail
      exact rel_done rfl _ rfl rfl (apart2_none (by decide) (by decide)) (Below.refl _ _)
    · have e1 : vals 1 = _ := hd 1 (by kernel_rfl)
      clear hd
      go_wp2_with fail
      exact rel_done rfl _ rfl rfl (apart2_none (by decide) (by decide)) (Below.refl _ _)
    · clear hd
      go_wp2_with fail
      exact rel_done rfl _ rfl rfl (apart2_none (by decide) (by decide)) (Below.refl _ _)
    · have e3 : vals 3 = _ := hd 3 (by kernel_rfl)
      clear hd
      go_wp2_with fail
      exact rel_done rfl _ rfl rfl (apart2_none (by decide) (by decide)) (Below.refl _ _)
    · clear hd
      go_wp2_with fail
      exact rel_done rfl _ rfl rfl (apart2_none (by decide) (by decide)) (Below.refl _ _)
    · have e5 : vals 5 = _ := hd 5 (by kernel_rfl)
      clear hd
      go_wp2_with fail
      exact rel_done rfl _ rfl rfl (apart2_none (by decide) (by decide)) (Below.refl _ _)
    · have e4 : vals 4 = _ := hd 4 (by kernel_rfl)
      have e6 : vals 6 = _ := hd 6 (by kernel_rfl)
      clear hd
      go_wp2_with fail
      exact rel_done rfl _ rfl rfl (apart2_none (by decide) (by decide)) (Below.refl _ _)
    · have e2 : vals 2 = _ := hd 2 (by kernel_rfl)
      have e7 : vals 7 = _ := hd 7 (by kernel_rfl)
      clear hd
      go_wp2_with fail
      refine (chapmanref06_Value.calls 100 k1 0 false b0 b1 v.f0 v.f1 v.f2 _ HV.out).mono ?_
      rintro e w2 ⟨rfl, hb⟩
      go_wp2_with fail
      exact rel_done rfl _ rfl rfl (apart2_none (by decide) (by decide)) hb
    · clear hd
      go_wp2_with fail
      exact rel_done rfl _ rfl (by first | rfl | exact e0 | (simp [*]; done)) (apart2_none (by decide) (by decide)) (Below.refl _ _)
    · have e9 : vals 9 = _ := hd 9 (by kernel_rfl)
      clear hd
      go_wp2_with fail
      exact rel_done rfl _ rfl rfl (apart2_none (by decide) (by decide)) (Below.refl _ _)
    · have e10 : vals 10 = _ := hd 10 (by kernel_rfl)
      clear hd
      go_wp2_with fail
      exact rel_done rfl _ rfl rfl (apart2_none (by decide) (by decide)) (Below.refl _ _)
    · clear hd
      go_wp2_with fail
      exact rel_done rfl _ rfl rfl (apart2_none (by decide) (by decide)) (Below.refl _ _)
    · have e12 : vals 12 = _ := hd 12 (by kernel_rfl)
      clear hd
      go_wp2_with fail
      exact rel_done rfl _ rfl rfl (apart2_none (by decide) (by decide)) (Below.refl _ _)
    · clear hd
      go_wp2_with fail
      exact rel_done rfl _ rfl rfl (apart2_none (by decide) (by decide)) (Below.refl _ _)
    · have e14 : vals 14 = _ := hd 14 (by kernel_rfl)
      clear hd
      go_wp2_with fail
      exact rel_done rfl _ rfl rfl (apart2_none (by decide) (by decide)) (Below.refl _ _)
    · have e13 : vals 13 = _ := hd 13 (by kernel_rfl)
      have e15 : vals 15 = _ := hd 15 (by kernel_rfl)
      clear hd
      go_wp2_with fail
      exact rel_done rfl _ rfl rfl (apart2_none (by decide) (by decide)) (Below.refl _ _)
    · have e8 : vals 8 = _ := hd 8 (by kernel_rfl)
      have e11 : vals 11 = _ := hd 11 (by kernel_rfl)
      have e16 : vals 16 = _ := hd 16 (by kernel_rfl)
      clear hd
      go_wp2_with fail
      refine (chapmanref06_Value.calls 100 k1 0 false b2 b3 u.f0 u.f1 u.f2 _ HU.out).mono ?_
      rintro e w2 ⟨rfl, hb⟩
      go_wp2_with fail
      exact rel_done rfl _ rfl rfl (apart2_none (by decide) (by decide)) hb
    · clear hd
      go_wp2_with fail
      exact rel_done rfl _ rfl ⟨_, rfl, HM.out, heap_alloc_new _ _⟩ (apart2_new (by decide) W.heap.size 35 zero35 (fun j u hj h => by rcases hj with rfl | rfl <;> exact h)) (below_alloc (Below.refl _ _) _)
    · clear hd
      go_wp2_with fail
      exact rel_done rfl _ rfl ⟨_, rfl, HM.out, heap_alloc_new _ _⟩ (apart2_new (by decide) W.heap.size 35 zero35 (fun j u hj h => by rcases hj with rfl | rfl <;> exact h)) (below_alloc (Below.refl _ _) _)
  · intro vals X hX hv hapart
    have e8 : vals 8 = _ := hv 8 (by decide)
    have e17 : vals 17 = _ := hv 17 (by decide)
    obtain ⟨a10, q1, s1, h1⟩ := hv 18 (by decide)
    obtain ⟨a11, q2, s2, h2⟩ := hv 19 (by decide)
    have hne : a10 ≠ a11 := fun e => (hapart 18 19 (by decide) (by decide) (by decide)).1 rfl rfl (by rw [q1, q2, e])
    have hne' : a11 ≠ a10 := fun e => hne e.symm
    obtain ⟨m0, m1, m2⟩ := cell35 (p := z35) h1
    obtain ⟨m3, m4, m5⟩ := cell35 (p := z35) h2
    simp only [z35] at m0 m1 m2 m3 m4 m5
    have f0 := blk_frozen h1 0
    have f1 := blk_frozen h1 1
    have f2 := blk_frozen h1 2
    have f3 := blk_frozen h2 0
    have f4 := blk_frozen h2 1
    have f5 := blk_frozen h2 2
    have HTW := Lib.hid (two35 (p := v) (q := u) hX s1 s2 hne h1 h2)
    clear hv hapart h1 h2 hX s1 s2
    simp only [putAll, Act.put, List.take_succ_cons, List.take_zero, List.drop_succ_cons, List.drop_zero, List.setIfInBounds_toArray, List.set_cons_succ, List.set_cons_zero, Option.getD_some, Nat.zero_add, Nat.reduceAdd]
    simp only [e8, e17, q1, q2]
    go_upto_region 7 with (fail)
    clear m0 m1 m2 m3 m4 m5 f0 f1 f2 f3 f4 f5 hne hne' e8 e17 q1 q2
    obtain ⟨hXY, h12, h13⟩ := HTW.out
    have HBC := Lib.hid (show BkC gT b9 a10 a11 k1 N v u _ from ⟨HGl.out.below hXY, blk_below HTY.out hXY, blk_below HSP.out hXY, h12, h13⟩)
    replace HBA := Lib.hid (below_step HBA.out hXY)
    clear HGl HTY HSP HE5 HV HU
    simp only [put35] at HBC HBA
    clear hXY h12 h13 HTW
    generalize (((((X.setCell ⟨a10, 0, none⟩ (.int .i64 v.f0)).setCell ⟨a10, 1, none⟩ (.int .i64 v.f1)).setCell ⟨a10, 2, none⟩ (.string v.f2)).setCell ⟨a11, 0, none⟩ (.int .i64 u.f0)).setCell ⟨a11, 1, none⟩ (.int .i64 u.f1)).setCell ⟨a11, 2, none⟩ (.string u.f2) = Y at *
    refine wp_region_rel 10 123 (bkRel7 Y.heap.size N v u p q) (apart2 8 9) (by kernel_rfl) (by kernel_rfl) (by rfl) (bkRel7.stable _ _ _ _ _ _) ?_ ?_
    · intro vals X hX
      have HM := Lib.hid hX.size
      have hHX := HBC.out.below hX
      obtain ⟨k0, k2, k3⟩ := cell27 hHX.sp
      obtain ⟨m0, m1, m2⟩ := cell35 hHX.v
      obtain ⟨m3, m4, m5⟩ := cell35 hHX.u
      clear hX hHX HBA HBC
      simp only [putAll, Act.put, RelSteps, List.take_succ_cons, List.take_zero, List.setIfInBounds_toArray, List.set_cons_succ, List.set_cons_zero, Option.getD_some, Nat.zero_add, Nat.reduceAdd]
      refine ⟨fun hd => ?_, fun hd => ?_, fun hd => ?_, fun hd => ?_, fun hd => ?_, fun hd => ?_, fun hd => ?_, fun hd => ?_, fun hd => ?_, fun hd => ?_, trivial⟩
      · clear hd
        go_wp2_with fail
        exact rel_done rfl _ rfl rfl (apart2_none (by decide) (by decide)) (Below.refl _ _)
      · clear hd
        go_wp2_with fail
        exact rel_done rfl _ rfl rfl (apart2_none (by decide) (by decide)) (Below.refl _ _)
      · have e1 : vals 1 = _ := hd 1 (by kernel_rfl)
        clear hd
        go_wp2_with fail
        exact rel_done rfl _ rfl ⟨_, rfl, heap_alloc_new _ _⟩ (apart2_none (by decide) (by decide)) (below_alloc (Below.refl _ _) _)
      · have e0 : vals 0 = _ := hd 0 (by kernel_rfl)
        have r2 := hd 2 (by kernel_rfl)
        clear hd
        skip
        obtain ⟨g, eg, hg⟩ := r2
        have HG9 := Lib.hid hg
        clear hg
        go_wp2_with fail
        refine (partition_Of.calls 100 2 0 N (some ⟨g, 0, none⟩) 1 [v] p.f0 p.f1 p.f2 _ (one35 HG9.out) (by simp) HP.out).mono ?_
        rintro e w2 ⟨rfl, hb⟩
        go_wp2_with fail
        exact rel_done rfl _ rfl rfl (apart2_none (by decide) (by decide)) hb
      · clear hd
        go_wp2_with fail
        exact rel_done rfl _ rfl rfl (apart2_none (by decide) (by decide)) (Below.refl _ _)
      · clear hd
        go_wp2_with fail
        exact rel_done rfl _ rfl rfl (apart2_none (by decide) (by decide)) (Below.refl _ _)
      · have e5 : vals 5 = _ := hd 5 (by kernel_rfl)
        clear hd
        go_wp2_with fail
        exact rel_done rfl _ rfl ⟨_, rfl, heap_alloc_new _ _⟩ (apart2_none (by decide) (by decide)) (below_alloc (Below.refl _ _) _)
      · have r3 := hd 3 (by kernel_rfl)
        have e4 : vals 4 = _ := hd 4 (by kernel_rfl)
        have r6 := hd 6 (by kernel_rfl)
        clear hd
        have e3 : vals 3 = _ := r3
        skip
        obtain ⟨g, eg, hg⟩ := r6
        have HG9 := Lib.hid hg
        clear hg
        go_wp2_with fail
        refine (partition_Of.calls 100 2 0 N (some ⟨g, 0, none⟩) 1 [u] q.f0 q.f1 q.f2 _ (one35 HG9.out) (by simp) HQ.out).mono ?_
        rintro e w2 ⟨rfl, hb⟩
        go_wp2_with fail
        exact rel_done rfl _ rfl rfl (apart2_none (by decide) (by decide)) hb
      · clear hd
        go_wp2_with fail
        exact rel_done rfl _ rfl ⟨_, rfl, HM.out, heap_alloc_new _ _⟩ (apart2_new (by decide) Y.heap.size 35 zero35 (fun j u hj h => by rcases hj with rfl | rfl <;> exact h)) (below_alloc (Below.refl _ _) _)
      · clear hd
        go_wp2_with fail
        exact rel_done rfl _ rfl ⟨_, rfl, HM.out, heap_alloc_new _ _⟩ (apart2_new (by decide) Y.heap.size 35 zero35 (fun j u hj h => by rcases hj with rfl | rfl <;> exact h)) (below_alloc (Below.refl _ _) _)
    · intro vals X hX hv hapart
      have e3 : vals 3 = _ := hv 3 (by decide)
      have e7 : vals 7 = _ := hv 7 (by decide)
      obtain ⟨a12, q1, s1, h1⟩ := hv 8 (by decide)
      obtain ⟨a13, q2, s2, h2⟩ := hv 9 (by decide)
      have hne : a12 ≠ a13 := fun e => (hapart 8 9 (by decide) (by decide) (by decide)).1 rfl rfl (by rw [q1, q2, e])
      have hne' : a13 ≠ a12 := fun e => hne e.symm
      obtain ⟨m0, m1, m2⟩ := cell35 (p := z35) h1
      obtain ⟨m3, m4, m5⟩ := cell35 (p := z35) h2
      simp only [z35] at m0 m1 m2 m3 m4 m5
      have f0 := blk_frozen h1 0
      have f1 := blk_frozen h1 1
      have f2 := blk_frozen h1 2
      have f3 := blk_frozen h2 0
      have f4 := blk_frozen h2 1
      have f5 := blk_frozen h2 2
      have HTW := Lib.hid (two35 (p := p) (q := q) hX s1 s2 hne h1 h2)
      clear hv hapart h1 h2 hX s1 s2
      simp only [putAll, Act.put, List.take_succ_cons, List.take_zero, List.drop_succ_cons, List.drop_zero, List.setIfInBounds_toArray, List.set_cons_succ, List.set_cons_zero, Option.getD_some, Nat.zero_add, Nat.reduceAdd]
      simp only [e3, e7, q1, q2]
      go_upto_region 8 with (fail)
      clear m0 m1 m2 m3 m4 m5 f0 f1 f2 f3 f4 f5 hne hne' e3 e7 q1 q2
      obtain ⟨hXY, h12, h13⟩ := HTW.out
      have HBD0 := Lib.hid (show BkD gT b9 a10 a11 a12 a13 k1 N v u p q _ from ⟨HBC.out.below hXY, h12, h13⟩)
      replace HBA := Lib.hid (below_step HBA.out hXY)
      clear HBC HP HQ
      simp only [put35] at HBD0 HBA
      clear hXY h12 h13 HTW
      generalize (((((X.setCell ⟨a12, 0, none⟩ (.int .i64 p.f0)).setCell ⟨a12, 1, none⟩ (.int .i64 p.f1)).setCell ⟨a12, 2, none⟩ (.string p.f2)).setCell ⟨a13, 0, none⟩ (.int .i64 q.f0)).setCell ⟨a13, 1, none⟩ (.int .i64 q.f1)).setCell ⟨a13, 2, none⟩ (.string q.f2) = Y2 at *
      clear X
      obtain ⟨ve, hve⟩ : ∃ ve, (v.f0 == u.f0 && (v.f1 == u.f1 && v.f2.toList == u.f2.toList)) = ve := ⟨_, rfl⟩
      obtain ⟨n1, hn1⟩ : ∃ n1, ((N : Int) == 1) = n1 := ⟨_, rfl⟩
      have HVE := Lib.hid hve
      have HN1 := Lib.hid hn1
      have HPQ := Lib.hid (show ve = true → (p.f0 == q.f0 && (p.f1 == q.f1 && p.f2.toList == q.f2.toList)) = true from fun h => HVU.out (hve.trans h))
      have HP0 := Lib.hid (show n1 = true → p.f0 = 2 ∧ p.f1 = 0 ∧ p.f2.toList = [] from fun h => by
        have e1 : (N : Int) = 1 := by rw [h] at hn1; simpa using hn1
        have e2 := HBN0.out
        have e3 : B = 0 := by omega
        rw [HPB.out, e3]
        simp)
      clear hve hn1
      refine wp_region_rel 24 123 (bkRel8 gT b9 N v u p q ve n1) noApart (by kernel_rfl) (by kernel_rfl) (by rfl) (bkRel8.stable _ _ _ _ _ _ _ _ _) ?_ ?_
      · intro vals X hX
        have hHX := HBD0.out.below hX
        have HX := Lib.hid hHX
        obtain ⟨k0, k2, k3⟩ := cell27 hHX.c.sp
        obtain ⟨m0, m1, m2⟩ := cell35 hHX.c.v
        obtain ⟨m3, m4, m5⟩ := cell35 hHX.c.u
        obtain ⟨m6, m7, m8⟩ := cell35 hHX.p
        obtain ⟨n2, n3, n4⟩ := cell35 hHX.q
        clear hX hHX HBA HBD0
        simp only [putAll, Act.put, RelSteps, List.take_succ_cons, List.take_zero, List.setIfInBounds_toArray, List.set_cons_succ, List.set_cons_zero, Option.getD_some, Nat.zero_add, Nat.reduceAdd]
        refine ⟨fun hd => ?_, fun hd => ?_, fun hd => ?_, fun hd => ?_, fun hd => ?_, fun hd => ?_, fun hd => ?_, fun hd => ?_, fun hd => ?_, fun hd => ?_, fun hd => ?_, fun hd => ?_, fun hd => ?_, fun hd => ?_, fun hd => ?_, fun hd => ?_, fun hd => ?_, fun hd => ?_, fun hd => ?_, fun hd => ?_, fun hd => ?_, fun hd => ?_, fun hd => ?_, fun hd => ?_, trivial⟩
        · clear hd
          go_wp2_with fail
          exact rel_done rfl _ rfl rfl noApart_all (Below.refl _ _)
        · clear hd
          go_wp2_with fail
          exact rel_done rfl _ rfl rfl noApart_all (Below.refl _ _)
        · have e0 : vals 0 = _ := hd 0 (by kernel_rfl)
          have e1 : vals 1 = _ := hd 1 (by kernel_rfl)
          clear hd
          go_wp2_with fail
          exact rel_done rfl _ rfl (by first | rfl | exact congrArg Value.bool HVE.out | (simp [*]; done)) noApart_all (Below.refl _ _)
        · have e2 : vals 2 = _ := hd 2 (by kernel_rfl)
          clear hd
          go_wp2_with fail
          exact rel_done rfl _ rfl (by first | rfl | exact e2 | (simp [*]; done)) noApart_all (Below.refl _ _)
        · have e3 : vals 3 = _ := hd 3 (by kernel_rfl)
          clear hd
          by_cases hz : ve = true
          · rw [hz] at e3
            go_wp2_with fail
            exact rel_done rfl _ rfl (fun _ => by first | rfl | exact congrArg Value.bool (by assumption) | (simp [*]; done)) noApart_all (Below.refl _ _)
          · have hz' : ve = false := Bool.eq_false_iff.2 hz
            rw [hz'] at e3
            go_wp2_with fail
            exact rel_done rfl _ rfl (fun h => absurd h hz) noApart_all (Below.refl _ _)
        · have e3 : vals 3 = _ := hd 3 (by kernel_rfl)
          clear hd
          by_cases hz : ve = true
          · rw [hz] at e3
            go_wp2_with fail
            exact rel_done rfl _ rfl (fun _ => by first | rfl | exact congrArg Value.bool (by assumption) | (simp [*]; done)) noApart_all (Below.refl _ _)
          · have hz' : ve = false := Bool.eq_false_iff.2 hz
            rw [hz'] at e3
            go_wp2_with fail
            exact rel_done rfl _ rfl (fun h => absurd h hz) noApart_all (Below.refl _ _)
        · have e3 : vals 3 = _ := hd 3 (by kernel_rfl)
          have r4 := hd 4 (by kernel_rfl)
          have r5 := hd 5 (by kernel_rfl)
          clear hd
          skip
          skip
          by_cases hz : ve = true
          · rw [hz] at e3
            have e4 := r4 hz
            have e5 := r5 hz
            have e45 := HPQ.out hz
            go_wp2_with fail
            exact rel_done rfl _ rfl (fun _ => by first | rfl | exact congrArg Value.bool (by assumption) | (simp [*]; done)) noApart_all (Below.refl _ _)
          · have hz' : ve = false := Bool.eq_false_iff.2 hz
            rw [hz'] at e3
            go_wp2_with fail
            exact rel_done rfl _ rfl (fun h => absurd h hz) noApart_all (Below.refl _ _)
        · have e3 : vals 3 = _ := hd 3 (by kernel_rfl)
          have r6 := hd 6 (by kernel_rfl)
          clear hd
          skip
          by_cases hz : ve = true
          · rw [hz] at e3
            have e6 := r6 hz
            go_wp2_with fail
            exact rel_done rfl _ rfl (by first | rfl | exact e6 | (show _ = _; simp [*]; done)) noApart_all (Below.refl _ _)
          · have hz' : ve = false := Bool.eq_false_iff.2 hz
            rw [hz'] at e3
            go_wp2_with fail
            exact rel_done rfl _ rfl (by first | rfl | exact e3 | (show _ = _; simp [*]; done)) noApart_all (Below.refl _ _)
        · have e3 : vals 3 = _ := hd 3 (by kernel_rfl)
          have r7 := hd 7 (by kernel_rfl)
          clear hd
          have e7 : vals 7 = _ := r7
          have e7 : vals 7 = _ := r7
          go_wp2_with fail
          exact rel_done rfl _ rfl (by first | rfl | exact e7 | (show _ = _; simp [*]; done)) noApart_all (Below.refl _ _)
        · have r8 := hd 8 (by kernel_rfl)
          clear hd
          have e8 : vals 8 = _ := r8
          go_wp2_with fail
          exact rel_done rfl _ rfl rfl noApart_all (Below.refl _ _)
        · have r8 := hd 8 (by kernel_rfl)
          have e9 : vals 9 = _ := hd 9 (by kernel_rfl)
          clear hd
          have e8 : vals 8 = _ := r8
          go_wp2_with fail
          exact rel_done rfl _ rfl rfl noApart_all (Below.refl _ _)
        · have r8 := hd 8 (by kernel_rfl)
          have e10 : vals 10 = _ := hd 10 (by kernel_rfl)
          clear hd
          have e8 : vals 8 = _ := r8
          go_wp2_with fail
          exact rel_done rfl _ rfl (by first | rfl | exact congrArg Value.bool HN1.out | (simp [*]; done)) noApart_all (Below.refl _ _)
        · have r8 := hd 8 (by kernel_rfl)
          have e11 : vals 11 = _ := hd 11 (by kernel_rfl)
          clear hd
          have e8 : vals 8 = _ := r8
          go_wp2_with fail
          exact rel_done rfl _ rfl (by first | rfl | exact e11 | (simp [*]; done)) noApart_all (Below.refl _ _)
        · have e12 : vals 12 = _ := hd 12 (by kernel_rfl)
          clear hd
          by_cases hz : n1 = true
          · rw [hz] at e12
            go_wp2_with fail
            exact rel_done rfl _ rfl (fun _ => by first | rfl | exact congrArg Value.bool (by assumption) | (simp [*]; done)) noApart_all (Below.refl _ _)
          · have hz' : n1 = false := Bool.eq_false_iff.2 hz
            rw [hz'] at e12
            go_wp2_with fail
            exact rel_done rfl _ rfl (fun h => absurd h hz) noApart_all (Below.refl _ _)
        · have e12 : vals 12 = _ := hd 12 (by kernel_rfl)
          clear hd
          by_cases hz : n1 = true
          · rw [hz] at e12
            go_wp2_with fail
            refine (chapmanref06_Whole.calls 0 2 0 ⟨#[]⟩ _ (whole_f (i := 0) (by decide))).mono ?_
            rintro e w2 ⟨rfl, hb⟩
            go_wp2_with fail
            exact rel_done rfl _ rfl (fun _ => rfl) noApart_all hb
          · have hz' : n1 = false := Bool.eq_false_iff.2 hz
            rw [hz'] at e12
            go_wp2_with fail
            exact rel_done rfl _ rfl (fun h => absurd h hz) noApart_all (Below.refl _ _)
        · have e12 : vals 12 = _ := hd 12 (by kernel_rfl)
          have r13 := hd 13 (by kernel_rfl)
          have r14 := hd 14 (by kernel_rfl)
          clear hd
          skip
          skip
          by_cases hz : n1 = true
          · rw [hz] at e12
            have e13 := r13 hz
            have e14 := r14 hz
            obtain ⟨e45, e46, e47⟩ := HP0.out hz
            go_wp2_with fail
            exact rel_done rfl _ rfl (fun _ => by first | rfl | exact congrArg Value.bool (by assumption) | (simp [*]; done)) noApart_all (Below.refl _ _)
          · have hz' : n1 = false := Bool.eq_false_iff.2 hz
            rw [hz'] at e12
            go_wp2_with fail
            exact rel_done rfl _ rfl (fun h => absurd h hz) noApart_all (Below.refl _ _)
        · have r8 := hd 8 (by kernel_rfl)
          have e12 : vals 12 = _ := hd 12 (by kernel_rfl)
          have r15 := hd 15 (by kernel_rfl)
          clear hd
          have e8 : vals 8 = _ := r8
          skip
          by_cases hz : n1 = true
          · rw [hz] at e12
            have e15 := r15 hz
            go_wp2_with fail
            exact rel_done rfl _ rfl (by first | rfl | exact e15 | (show _ = _; simp [*]; done)) noApart_all (Below.refl _ _)
          · have hz' : n1 = false := Bool.eq_false_iff.2 hz
            rw [hz'] at e12
            go_wp2_with fail
            exact rel_done rfl _ rfl (by first | rfl | exact e12 | (show _ = _; simp [*]; done)) noApart_all (Below.refl _ _)
        · have r8 := hd 8 (by kernel_rfl)
          have r16 := hd 16 (by kernel_rfl)
          clear hd
          have e8 : vals 8 = _ := r8
          have e16 : vals 16 = _ := r16
          have e16 : vals 16 = _ := r16
          go_wp2_with fail
          exact rel_done rfl _ rfl (by first | rfl | exact e16 | (show _ = _; simp [*]; done)) noApart_all (Below.refl _ _)
        · have r14 := hd 14 (by kernel_rfl)
          have r17 := hd 17 (by kernel_rfl)
          clear hd
          skip
          have e17 : vals 17 = _ := r17
          have e17 : vals 17 = _ := r17
          go_wp2_with fail
          exact rel_done rfl _ rfl (by first | rfl | exact e17 | (show _ = _; simp [*]; done)) noApart_all (Below.refl _ _)
        · have r18 := hd 18 (by kernel_rfl)
          clear hd
          have e18 : vals 18 = _ := r18
          go_wp2_with fail
          exact rel_done rfl _ rfl (by first | rfl | exact e18 | (simp [*]; done)) noApart_all (Below.refl _ _)
        · have r18 := hd 18 (by kernel_rfl)
          clear hd
          have e18 : vals 18 = _ := r18
          go_wp2_with fail
          exact rel_done rfl _ rfl rfl noApart_all (Below.refl _ _)
        · have r18 := hd 18 (by kernel_rfl)
          have e19 : vals 19 = _ := hd 19 (by kernel_rfl)
          have e20 : vals 20 = _ := hd 20 (by kernel_rfl)
          clear hd
          have e18 : vals 18 = _ := r18
          go_wp2_with fail
          refine (partition_Valid.calls (some ⟨gT, 0, none⟩) 1 [⟨k1, 0, false⟩] 2 0 N true _ (one63 (t := ⟨k1, 0, false⟩) HX.out.c.ty) (by simp) HVAL.out).mono ?_
          rintro e w2 ⟨rfl, hb⟩
          go_wp2_with fail
          exact rel_done rfl _ rfl rfl noApart_all hb
        · have r18 := hd 18 (by kernel_rfl)
          have e21 : vals 21 = _ := hd 21 (by kernel_rfl)
          clear hd
          have e18 : vals 18 = _ := r18
          go_wp2_with fail
          exact rel_done rfl _ rfl (by first | rfl | exact congrArg Value.bool (by assumption) | (simp [*]; done)) noApart_all (Below.refl _ _)
        · have r18 := hd 18 (by kernel_rfl)
          have e22 : vals 22 = _ := hd 22 (by kernel_rfl)
          clear hd
          have e18 : vals 18 = _ := r18
          go_wp2_with fail
          exact rel_done rfl _ rfl (by first | rfl | exact e22 | (simp [*]; done)) noApart_all (Below.refl _ _)
      · intro vals X hX hv _
        have e23 : vals 23 = _ := hv 23 (by decide)
        replace HBD0 := Lib.hid (HBD0.out.below hX)
        replace HBA := Lib.hid (below_step HBA.out hX)
        clear hv hX HVE HN1 HPQ HP0 HVU HVAL
        simp only [putAll, Act.put, List.take_succ_cons, List.take_zero, List.drop_succ_cons, List.drop_zero, List.setIfInBounds_toArray, List.set_cons_succ, List.set_cons_zero, Option.getD_some, Nat.zero_add, Nat.reduceAdd]
        simp only [e23]
        clear e23
        go_wp2_with fail
        have hO : OwnV X.heap.size (if B < 0 then [p] else []) (.slice (some ⟨X.heap.size, 0, none⟩) 0 0) (X.alloc (.cells #[] 35)) := ⟨rfl, Or.inr ⟨X.heap.size, 0, #[], rfl, Nat.le_refl _, heap_alloc_new X _, Nat.le_refl _, Nat.zero_le _, rfl, rfl⟩⟩
        have hZ := below_alloc (Below.refl X.heap.size X) (.cells #[] 35)
        generalize X.alloc (.cells #[] 35) = Z at *
        go_loopw [14, 15] (fun s14 s15 wr => ∃ i : Nat, s15 = .int .i64 (i : Int) ∧ i ≤ N ∧ OwnV X.heap.size (if B < i then [p] else []) s14 wr ∧ Below X.heap.size X wr) (fun _ s15 _ => N - (intOf s15).toNat)
        case atStart => exact ⟨0, rfl, Nat.zero_le _, hO, hZ⟩
        case round =>
          clear hO hZ
          obtain ⟨i, rfl, hiN, ho, hX⟩ := hrel
          have HD := Lib.hid (HBD0.out.below hX)
          have HOO := Lib.hid ho
          have HXW := Lib.hid hX
          obtain ⟨k0, k2, k3⟩ := cell27 HD.out.c.sp
          have hN63 := HN64.out
          by_cases hlt : i < N
          · have hd : decide ((i : Int) < (N : Int)) = true := decide_eq_true (by omega)
            obtain ⟨hpo, hbd⟩ := HBDS.out i hlt
            have HPO := Lib.hid hpo
            have HBD := Lib.hid hbd
            have HI := Lib.hid (show i < 1000000 by omega)
            have HLTN := Lib.hid hlt
            obtain ⟨y, hy⟩ : ∃ y, (!p.f0 == 2 || (!p.f1 == (i : Int) * 1000000 || !p.f2.toList == (⟨#[]⟩ : ByteArray).toList)) = y := ⟨_, rfl⟩
            have HYB := Lib.hid (show (y = true ∧ B ≠ i) ∨ (y = false ∧ B = i) from by
              rw [HPB.out] at hy
              by_cases hBi : B = i
              · refine .inr ⟨?_, hBi⟩
                rw [← hy, hBi]
                simp
              · refine .inl ⟨?_, hBi⟩
                have h9 : ((B : Int) * 1000000 == (i : Int) * 1000000) = false := by rw [beq_eq_false_iff_ne]; omega
                rw [← hy]
                simp only [h9]
                simp)
            have HY := Lib.hid hy
            clear hpo hbd hy ho hX hlt hiN
            go_wp2_with fail
            clear hd k0 k2 k3
            refine wp_region_rel 6 123 (bkRel14 gT i N) noApart (by kernel_rfl) (by kernel_rfl) (by rfl) (bkRel14.stable _ _ _) ?_ ?_
            · intro vals X hX
              have hHX := HD.out.below hX
              have HX := Lib.hid hHX
              obtain ⟨k0, k2, k3⟩ := cell27 hHX.c.sp
              clear hX hHX HBA HBD0 HD HOO HXW
              simp only [putAll, Act.put, RelSteps, List.take_succ_cons, List.take_zero, List.setIfInBounds_toArray, List.set_cons_succ, List.set_cons_zero, Option.getD_some, Nat.zero_add, Nat.reduceAdd]
              refine ⟨fun hd => ?_, fun hd => ?_, fun hd => ?_, fun hd => ?_, fun hd => ?_, fun hd => ?_, trivial⟩
              · clear hd
                go_wp2_with fail
                exact rel_done rfl _ rfl (by first | rfl | exact e0 | (simp [*]; done)) noApart_all (Below.refl _ _)
              · clear hd
                go_wp2_with fail
                exact rel_done rfl _ rfl rfl noApart_all (Below.refl _ _)
              · clear hd
                go_wp2_with fail
                exact rel_done rfl _ rfl (by first | rfl | exact e0 | (simp [*]; done)) noApart_all (Below.refl _ _)
              · have e2 : vals 2 = _ := hd 2 (by kernel_rfl)
                clear hd
                go_wp2_with fail
                refine (chapmanref06_Whole.calls (i : Int) 2 ((i : Int) * 1000000) ⟨#[]⟩ _ (whole_f HI.out)).mono ?_
                rintro e w2 ⟨rfl, hb⟩
                go_wp2_with fail
                exact rel_done rfl _ rfl rfl noApart_all hb
              · have e0 : vals 0 = _ := hd 0 (by kernel_rfl)
                have e1 : vals 1 = _ := hd 1 (by kernel_rfl)
                have e3 : vals 3 = _ := hd 3 (by kernel_rfl)
                clear hd
                go_wp2_with fail
                refine (partition_Possible.calls 100 (some ⟨gT, 0, none⟩) 1 [⟨k1, 0, false⟩] 2 0 N 2 ((i : Int) * 1000000) ⟨#[]⟩ true _ (one63 (t := ⟨k1, 0, false⟩) HX.out.c.ty) (by simp) HX.out.c.laid HPO.out).mono ?_
                rintro e w2 ⟨rfl, hb⟩
                go_wp2_with fail
                exact rel_done rfl _ rfl rfl noApart_all hb
              · have e4 : vals 4 = _ := hd 4 (by kernel_rfl)
                clear hd
                go_wp2_with fail
                exact rel_done rfl _ rfl (by first | rfl | exact congrArg Value.bool (by assumption) | (simp [*]; done)) noApart_all (Below.refl _ _)
            · intro vals X2 hX hv _
              have e5 : vals 5 = _ := hv 5 (by decide)
              replace HD := Lib.hid (HD.out.below hX)
              replace HOO := Lib.hid (HOO.out.below hX)
              replace HXW := Lib.hid (below_step HXW.out hX)
              clear hv hX HPO
              simp only [putAll, Act.put, List.take_succ_cons, List.take_zero, List.drop_succ_cons, List.drop_zero, List.setIfInBounds_toArray, List.set_cons_succ, List.set_cons_zero, Option.getD_some, Nat.zero_add, Nat.reduceAdd]
              simp only [e5]
              clear e5
              go_wp2_with fail
              refine wp_region_rel 9 123 (bkRel16 gT i N v y) noApart (by kernel_rfl) (by kernel_rfl) (by rfl) (bkRel16.stable _ _ _ _ _) ?_ ?_
              · intro vals X hX
                have hHX := HD.out.below hX
                have HX := Lib.hid hHX
                obtain ⟨k0, k2, k3⟩ := cell27 hHX.c.sp
                obtain ⟨m0, m1, m2⟩ := cell35 hHX.c.v
                clear hX hHX HBA HBD0 HD HOO HXW
                simp only [putAll, Act.put, RelSteps, List.take_succ_cons, List.take_zero, List.setIfInBounds_toArray, List.set_cons_succ, List.set_cons_zero, Option.getD_some, Nat.zero_add, Nat.reduceAdd]
                refine ⟨fun hd => ?_, fun hd => ?_, fun hd => ?_, fun hd => ?_, fun hd => ?_, fun hd => ?_, fun hd => ?_, fun hd => ?_, fun hd => ?_, trivial⟩
                · clear hd
                  go_wp2_with fail
                  exact rel_done rfl _ rfl (by first | rfl | exact e0 | (simp [*]; done)) noApart_all (Below.refl _ _)
                · clear hd
                  go_wp2_with fail
                  exact rel_done rfl _ rfl rfl noApart_all (Below.refl _ _)
                · clear hd
                  go_wp2_with fail
                  exact rel_done rfl _ rfl (by first | rfl | exact e0 | (simp [*]; done)) noApart_all (Below.refl _ _)
                · have e2 : vals 2 = _ := hd 2 (by kernel_rfl)
                  clear hd
                  go_wp2_with fail
                  refine (chapmanref06_Whole.calls (i : Int) 2 ((i : Int) * 1000000) ⟨#[]⟩ _ (whole_f HI.out)).mono ?_
                  rintro e w2 ⟨rfl, hb⟩
                  go_wp2_with fail
                  exact rel_done rfl _ rfl rfl noApart_all hb
                · clear hd
                  go_wp2_with fail
                  exact rel_done rfl _ rfl rfl noApart_all (Below.refl _ _)
                · have e3 : vals 3 = _ := hd 3 (by kernel_rfl)
                  have e4 : vals 4 = _ := hd 4 (by kernel_rfl)
                  clear hd
                  go_wp2_with fail
                  refine (chapmanlaw32_equation.calls 0 v.f0 v.f1 v.f2 _ _ _ _ _ _ _ rfl).mono ?_
                  rintro e w2 ⟨v5, rfl, hR, hb⟩
                  have hV : Kd.V k38 38 w2 w2.heap.size (fun _ => True) v5 [⟨2, 0, ⟨0, 0, ⟨#[]⟩⟩, []⟩, ⟨1, 0, v, []⟩] := Kd.R_V hR
                  obtain ⟨A8, m8, rfl⟩ := Kd.V_slice hV
                  have HV9 := Lib.hid hV
                  clear hV hR
                  go_wp2_with fail
                  exact rel_done rfl _ rfl ⟨A8, m8, rfl, HV9.out⟩ noApart_all hb
                · have e1 : vals 1 = _ := hd 1 (by kernel_rfl)
                  have e3 : vals 3 = _ := hd 3 (by kernel_rfl)
                  have r5 := hd 5 (by kernel_rfl)
                  clear hd
                  skip
                  obtain ⟨A8, m8, e5, hV⟩ := r5
                  have HV9 := Lib.hid hV
                  clear hV
                  simp only [List.nil_append] at e5
                  go_wp2_with fail
                  exact rel_done rfl _ rfl ⟨A8, m8, rfl, HV9.out⟩ noApart_all (Below.refl _ _)
                · have e0 : vals 0 = _ := hd 0 (by kernel_rfl)
                  have r5 := hd 5 (by kernel_rfl)
                  have r6 := hd 6 (by kernel_rfl)
                  clear hd
                  skip
                  skip
                  obtain ⟨A8, m8, e6, hV⟩ := r6
                  have HV9 := Lib.hid hV
                  clear hV
                  simp only [List.cons_append, List.nil_append] at e6
                  go_wp2_with fail
                  refine (chapmanlaw32_never.calls2 100 100 (some ⟨gT, 0, none⟩) 1 [⟨k1, 0, false⟩] 0 N 2 ((i : Int) * 1000000) ⟨#[]⟩ 0 0 0 ⟨#[]⟩ A8 m8 0 0 ⟨0, 0, ⟨#[]⟩⟩ v [] [] (fun _ => True) _ (one63 (t := ⟨k1, 0, false⟩) HX.out.c.ty) (by simp) HX.out.c.laid HV9.out (by decide) L 0 HBD.out HL.out HBN.out rfl p HOF.out y HY.out).mono ?_
                  rintro e w2 ⟨rfl, hb⟩
                  go_wp2_with fail
                  exact rel_done rfl _ rfl rfl noApart_all hb
                · have r7 := hd 7 (by kernel_rfl)
                  clear hd
                  have e7 : vals 7 = _ := r7
                  have e7 : vals 7 = _ := r7
                  go_wp2_with fail
                  exact rel_done rfl _ rfl (by first | rfl | (show _ = _; simp [*]; done)) noApart_all (Below.refl _ _)
              · intro vals X3 hX hv _
                have e8 : vals 8 = _ := hv 8 (by decide)
                replace HOO := Lib.hid (HOO.out.below hX)
                replace HXW := Lib.hid (below_step HXW.out hX)
                clear hv hX HBD HY HD
                simp only [putAll, Act.put, List.take_succ_cons, List.take_zero, List.drop_succ_cons, List.drop_zero, List.setIfInBounds_toArray, List.set_cons_succ, List.set_cons_zero, Option.getD_some, Nat.zero_add, Nat.reduceAdd]
                simp only [e8]
                clear e8
                rcases HYB.out with ⟨rfl, hne⟩ | ⟨rfl, rfl⟩
                · have hlt := HLTN.out
                  have hO2 : OwnV X.heap.size (if B < i + 1 then [p] else []) u14 X3 := by
                    have e9 : (if B < i + 1 then [p] else []) = (if B < i then [p] else []) := by
                      by_cases h9 : B < i
                      · rw [if_pos h9, if_pos (by omega)]
                      · rw [if_neg h9, if_neg (by omega)]
                    rw [e9]
                    exact HOO.out
                  have hXX := HXW.out
                  clear HOO HXW HYB HBA HBD0
                  go_wp2_with fail
                  exact ⟨⟨i + 1, by first | rfl | exact bk_inc (by omega), hlt, hO2, hXX⟩, bk_end1 hlt⟩
                · have hlt := HLTN.out
                  go_wp2_with fail
                  refine (chapmanref06_Whole.calls (B : Int) 2 ((B : Int) * 1000000) ⟨#[]⟩ _ (whole_f HI.out)).mono ?_
                  rintro e w4 ⟨rfl, hb⟩
                  have hZ4 := below_alloc hb (.cells #[.int .i64 2, .int .i64 ((B : Int) * 1000000), .string ⟨#[]⟩] 35)
                  have hO4 : (w4.alloc (.cells #[.int .i64 2, .int .i64 ((B : Int) * 1000000), .string ⟨#[]⟩] 35)).ownsRow X.heap.size 35 3 u14 0 [] := by
                    have h9 := HOO.out.below hZ4
                    rw [if_neg (Nat.lt_irrefl _)] at h9
                    exact h9
                  have HO4 := Lib.hid hO4
                  have HX4 := Lib.hid (below_step HXW.out hZ4)
                  have hcell : ∀ q u, ([Value.int .i64 2, .int .i64 ((B : Int) * 1000000), .string ⟨#[]⟩])[q]? = some u → (w4.alloc (.cells #[.int .i64 2, .int .i64 ((B : Int) * 1000000), .string ⟨#[]⟩] 35)).cell? ((⟨w4.heap.size, 0, none⟩ : Addr).add q) = some u := cell_three_new w4 _ _ _ 35
                  clear hb hZ4 hO4 HOO HXW HYB HBA HBD0
                  have hx4 := HX4.out.size
                  go_wp2_with (at_builtin; refine wpList_append_own_at _ rfl _ _ 28 rfl X.heap.size 35 i0 (.agg #[.int .i64 0, .int .i64 0, .string ⟨#[]⟩]) 3 32 hu28 hi hz0 hz1 hz2 rfl (by decide) _ 0 _ rfl HO4.out ⟨w4.heap.size, 0, none⟩ 1 1 [.int .i64 2, .int .i64 ((B : Int) * 1000000), .string ⟨#[]⟩] rfl rfl hcell (by simp [Value.oneCell']) (by unfold maxLen; omega) (by omega) hx4 ?_; intro v' w5 hown' hgrow hnil hloc)
                  have hB5 := HX4.out.grown hgrow hx4 (fun g h => (HO4.out.lt g h).1)
                  have hO5 : OwnV X.heap.size (if B < B + 1 then [p] else []) v' w5 := by
                    rw [if_pos (Nat.lt_succ_self _), HPB.out]
                    exact hown'
                  clear hcell hgrow hown' hloc hnil HO4 HX4 hx4
                  exact ⟨⟨B + 1, by first | rfl | exact bk_inc (by omega), hlt, hO5, hB5⟩, bk_end1 hlt⟩
          · have hd : decide ((i : Int) < (N : Int)) = false := decide_eq_false (by omega)
            have hiN2 : i = N := by omega
            have ho1 : OwnV X.heap.size [p] u14 wr := by
              rw [hiN2, if_pos HBN0.out] at ho
              exact ho
            obtain ⟨AO, cO, hs14, hcO, hCO⟩ := row_reads ho1
            have HO := Lib.hid hCO
            have hBB := below_step HBA.out hX
            replace HBA := Lib.hid hBB
            have HI := Lib.hid (show N < 1000000 by omega)
            clear ho ho1 hX hBB hiN hiN2 HXW HOO hN63
            replace hs14 : u14 = .slice AO 1 cO := hs14
            subst hs14
            go_wp2_with fail
            clear hd k0 k2 k3
            refine wp_region_rel 16 123 (bkRel18 gT b9 N AO cO p) noApart (by kernel_rfl) (by kernel_rfl) (by rfl) (bkRel18.stable _ _ _ _ _ _) ?_ ?_
            · intro vals X hX
              have hHX := HD.out.below hX
              have HX := Lib.hid hHX
              replace HO := Lib.hid (Kd.C_below HO.out hX)
              obtain ⟨k0, k2, k3⟩ := cell27 hHX.c.sp
              obtain ⟨m0, m1, m2⟩ := cell35 hHX.p
              clear hX hHX HBA HBD0 HD
              simp only [putAll, Act.put, RelSteps, List.take_succ_cons, List.take_zero, List.setIfInBounds_toArray, List.set_cons_succ, List.set_cons_zero, Option.getD_some, Nat.zero_add, Nat.reduceAdd]
              refine ⟨fun hd => ?_, fun hd => ?_, fun hd => ?_, fun hd => ?_, fun hd => ?_, fun hd => ?_, fun hd => ?_, fun hd => ?_, fun hd => ?_, fun hd => ?_, fun hd => ?_, fun hd => ?_, fun hd => ?_, fun hd => ?_, fun hd => ?_, fun hd => ?_, trivial⟩
              · clear hd
                go_wp2_with fail
                exact rel_done rfl _ rfl (by first | rfl | exact e0 | (simp [*]; done)) noApart_all (Below.refl _ _)
              · clear hd
                go_wp2_with fail
                exact rel_done rfl _ rfl rfl noApart_all (Below.refl _ _)
              · have e1 : vals 1 = _ := hd 1 (by kernel_rfl)
                clear hd
                go_wp2_with fail
                exact rel_done rfl _ rfl ⟨_, rfl, heap_alloc_new _ _⟩ noApart_all (below_alloc (Below.refl _ _) _)
              · have e0 : vals 0 = _ := hd 0 (by kernel_rfl)
                have r2 := hd 2 (by kernel_rfl)
                clear hd
                skip
                obtain ⟨g, eg, hg⟩ := r2
                have HG9 := Lib.hid hg
                clear hg
                go_wp2_with fail
                refine (chapmanref06_Same.eq AO cO (some ⟨g, 0, none⟩) 1 [p] _ HO.out (one35 HG9.out) (fun x hx => by rw [List.mem_singleton.1 hx]; exact HCM.out) (by simp)).mono ?_
                rintro e w2 ⟨rfl, hb⟩
                go_wp2_with fail
                exact rel_done rfl _ rfl rfl noApart_all hb
              · have r3 := hd 3 (by kernel_rfl)
                clear hd
                have e3 : vals 3 = _ := r3
                have e3 : vals 3 = _ := r3
                go_wp2_with fail
                exact rel_done rfl _ rfl (by first | rfl | exact e3 | (show _ = _; simp [*]; done)) noApart_all (Below.refl _ _)
              · have r4 := hd 4 (by kernel_rfl)
                clear hd
                have e4 : vals 4 = _ := r4
                have e4 : vals 4 = _ := r4
                go_wp2_with fail
                exact rel_done rfl _ rfl rfl noApart_all (Below.refl _ _)
              · have r4 := hd 4 (by kernel_rfl)
                clear hd
                have e4 : vals 4 = _ := r4
                have e4 : vals 4 = _ := r4
                go_wp2_with fail
                exact rel_done rfl _ rfl rfl noApart_all (Below.refl _ _)
              · have r4 := hd 4 (by kernel_rfl)
                clear hd
                have e4 : vals 4 = _ := r4
                have e4 : vals 4 = _ := r4
                go_wp2_with fail
                exact rel_done rfl _ rfl rfl noApart_all (Below.refl _ _)
              · have r4 := hd 4 (by kernel_rfl)
                have r7 := hd 7 (by kernel_rfl)
                clear hd
                have e4 : vals 4 = _ := r4
                have e7 : vals 7 = _ := r7
                have e4 : vals 4 = _ := r4
                have e7 : vals 7 = _ := r7
                go_wp2_with fail
                exact rel_done rfl _ rfl rfl noApart_all (Below.refl _ _)
              · have r4 := hd 4 (by kernel_rfl)
                have r8 := hd 8 (by kernel_rfl)
                clear hd
                have e4 : vals 4 = _ := r4
                have e8 : vals 8 = _ := r8
                have e4 : vals 4 = _ := r4
                have e8 : vals 8 = _ := r8
                go_wp2_with fail
                refine (chapmanref06_Whole.calls (N : Int) 2 ((N : Int) * 1000000) ⟨#[]⟩ _ (whole_f HI.out)).mono ?_
                rintro e w2 ⟨rfl, hb⟩
                go_wp2_with fail
                exact rel_done rfl _ rfl rfl noApart_all hb
              · have r4 := hd 4 (by kernel_rfl)
                have r5 := hd 5 (by kernel_rfl)
                have r6 := hd 6 (by kernel_rfl)
                have r9 := hd 9 (by kernel_rfl)
                clear hd
                have e4 : vals 4 = _ := r4
                have e5 : vals 5 = _ := r5
                have e6 : vals 6 = _ := r6
                have e9 : vals 9 = _ := r9
                have e4 : vals 4 = _ := r4
                have e5 : vals 5 = _ := r5
                have e6 : vals 6 = _ := r6
                have e9 : vals 9 = _ := r9
                go_wp2_with fail
                refine (partition_Possible.calls 100 (some ⟨gT, 0, none⟩) 1 [⟨k1, 0, false⟩] 2 0 N 2 ((N : Int) * 1000000) ⟨#[]⟩ false _ (one63 (t := ⟨k1, 0, false⟩) HX.out.c.ty) (by simp) HX.out.c.laid HNO.out).mono ?_
                rintro e w2 ⟨rfl, hb⟩
                go_wp2_with fail
                exact rel_done rfl _ rfl rfl noApart_all hb
              · have r4 := hd 4 (by kernel_rfl)
                have r10 := hd 10 (by kernel_rfl)
                clear hd
                have e4 : vals 4 = _ := r4
                have e10 : vals 10 = _ := r10
                have e4 : vals 4 = _ := r4
                have e10 : vals 10 = _ := r10
                go_wp2_with fail
                exact rel_done rfl _ rfl (by first | rfl | exact e4 | exact e10 | (show _ = _; simp [*]; done)) noApart_all (Below.refl _ _)
              · have r4 := hd 4 (by kernel_rfl)
                have r11 := hd 11 (by kernel_rfl)
                clear hd
                have e4 : vals 4 = _ := r4
                have e11 : vals 11 = _ := r11
                have e4 : vals 4 = _ := r4
                have e11 : vals 11 = _ := r11
                go_wp2_with fail
                exact rel_done rfl _ rfl (by first | rfl | exact e4 | exact e11 | (show _ = _; simp [*]; done)) noApart_all (Below.refl _ _)
              · have r10 := hd 10 (by kernel_rfl)
                have r12 := hd 12 (by kernel_rfl)
                clear hd
                have e10 : vals 10 = _ := r10
                have e12 : vals 12 = _ := r12
                have e12 : vals 12 = _ := r12
                go_wp2_with fail
                exact rel_done rfl _ rfl (by first | rfl | exact e12 | (show _ = _; simp [*]; done)) noApart_all (Below.refl _ _)
              · have r13 := hd 13 (by kernel_rfl)
                clear hd
                have e13 : vals 13 = _ := r13
                have e13 : vals 13 = _ := r13
                go_wp2_with fail
                exact rel_done rfl _ rfl (by first | rfl | exact e13 | (show _ = _; simp [*]; done)) noApart_all (Below.refl _ _)
              · have r13 := hd 13 (by kernel_rfl)
                have r14 := hd 14 (by kernel_rfl)
                clear hd
                have e13 : vals 13 = _ := r13
                have e14 : vals 14 = _ := r14
                have e13 : vals 13 = _ := r13
                have e14 : vals 14 = _ := r14
                go_wp2_with fail
                exact rel_done rfl _ rfl (by first | rfl | exact e13 | exact e14 | (show _ = _; simp [*]; done)) noApart_all (Below.refl _ _)
            · intro vals X2 hX hv _
              have e15 : vals 15 = _ := hv 15 (by decide)
              have hB9 := below_step HBA.out hX
              clear hv hX HD HO
              simp only [putAll, Act.put, List.take_succ_cons, List.take_zero, List.drop_succ_cons, List.drop_zero, List.setIfInBounds_toArray, List.set_cons_succ, List.set_cons_zero, Option.getD_some, Nat.zero_add, Nat.reduceAdd]
              simp only [e15]
              clear e15
              go_wp2_with fail
              go_ret
              exact ⟨rfl, hB9⟩
end Go.Proofs.YteflfnjljjianaaGreatDoor.Qx
namespace Go.Proofs.YteflfnjljjianaaGreatDoor.Qx
open Go.RowKit Go.Proofs.YteflfnjljjianaaGreatDoorW.PrintWords Go.Proofs.YteflfnjljjianaaGreatDoorW.PrintLast Go.Proofs.YteflfnjljjianaaGreatDoorW.PrintMore
attribute [local go_sem] max2_int min2_int max_two min_two
set_option linter.unusedVariables false
set_option linter.unusedSimpArgs false
def ty7 : List S63 := [⟨2, 2, false⟩, ⟨3, 0, false⟩, ⟨1, 0, false⟩, ⟨2, 0, true⟩, ⟨3, 0, true⟩, ⟨1, 0, true⟩, ⟨2, 0, false⟩]
def nul : S35 := ⟨0, 0, ⟨#[]⟩⟩
def vNum (s : Int) : List S35 := (List.range 40).map fun m : Nat => ⟨2, wrap64 (wrap64 (wrap64 (m : Int) - 12) * s), ⟨#[]⟩⟩
def wordL : List ByteArray := [⟨#[]⟩, ⟨#[97]⟩, ⟨#[98]⟩, ⟨#[97, 98]⟩, ⟨#[97, 32, 98]⟩, ⟨#[98, 32, 97, 32, 99]⟩, ⟨#[120, 45, 121]⟩, ⟨#[45]⟩, ⟨#[49, 50]⟩, ⟨#[45, 48, 46, 53]⟩, ⟨#[97, 34, 98]⟩, ⟨#[92]⟩, ⟨#[48]⟩, ⟨#[55, 46, 50, 53]⟩, ⟨#[97, 98, 99, 100, 101, 102, 103, 104, 105, 106, 107, 108, 109, 110, 111, 112, 113, 114, 115, 116, 117, 118, 119, 120, 121, 122, 97, 98, 99, 100, 101, 102, 103, 104, 105, 106, 107, 108, 109, 110]⟩]
def vTxt : List S35 := (List.range 15).map fun m : Nat => ⟨3, 0, rdOf ByteArray.empty wordL (m : Int)⟩
def stepS (s : Int) : Int := if s = 2 then 10000 else 1000000
def VT (t : S63) : List S35 := (if t.f2 then [nul] else []) ++ (if t.f0 = 1 then [⟨1, 0, ⟨#[]⟩⟩, ⟨1, 1, ⟨#[]⟩⟩] else if t.f0 = 2 then vNum 1000000 ++ vNum (stepS t.f1) else vTxt)
set_option maxRecDepth 1000000
theorem tmod_lt {x n : Int} (h : 0 ≤ x) (hn : 0 < n) : 0 ≤ Int.tmod x n ∧ Int.tmod x n < n := by
  rw [Int.tmod_eq_emod_of_nonneg h]
  exact ⟨Int.emod_nonneg _ (by omega), Int.emod_lt_of_pos _ hn⟩
theorem map_mem {α : Type} {f : Nat → α} {n : Nat} {x : Int} (h0 : 0 ≤ x) (h1 : x < (n : Int)) : f x.toNat ∈ (List.range n).map f := List.mem_map.2 ⟨x.toNat, List.mem_range.2 (by omega), rfl⟩
theorem j0_num {k : Nat} (sc : Int) (tn : Bool) (b0 b1 : Int) (hs : chapmanref06_Step.f k sc = some (stepS sc)) (h : 0 ≤ b1) : ∃ v ∈ vNum 1000000 ++ vNum (stepS sc), chapmanref06_Value.j0 (k + 1) false 2 sc tn b0 b1 = some (v.f0, v.f1, v.f2) := by
  have hm := tmod_lt (n := 40) h (by omega)
  have e : ((Int.tmod b1 40).toNat : Int) = Int.tmod b1 40 := Int.toNat_of_nonneg hm.1
  simp only [chapmanref06_Value.j0]
  rw [if_neg (by decide), if_neg (by decide), if_pos trivial]
  split
  · refine ⟨_, List.mem_append_right _ (map_mem hm.1 hm.2), ?_⟩
    rw [hs, e]
    rfl
  · refine ⟨_, List.mem_append_left _ (map_mem hm.1 hm.2), ?_⟩
    rw [e]
    rfl
theorem j0_txt {k : Nat} (sc : Int) (tn : Bool) (b0 b1 : Int) (h : 0 ≤ b1 ∧ b1 < 256) : ∃ v ∈ vTxt, chapmanref06_Value.j0 (k + 1) false 3 sc tn b0 b1 = some (v.f0, v.f1, v.f2) := by
  have hm := tmod_lt (n := 15) h.1 (by omega)
  have e : ((Int.tmod b1 15).toNat : Int) = Int.tmod b1 15 := Int.toNat_of_nonneg hm.1
  have hw : wrap64 b1 = b1 := by unfold wrap64; omega
  simp only [chapmanref06_Value.j0]
  rw [if_neg (by decide), if_neg (by decide), if_neg (by decide), hw]
  refine ⟨_, map_mem hm.1 hm.2, ?_⟩
  unfold chapmanref06_words.f
  simp only [Option.bind_some]
  rw [if_pos hm.1, if_pos (by simpa using hm.2), e]
  rfl
theorem j0_bool {k : Nat} (sc : Int) (tn : Bool) (b0 b1 : Int) : ∃ v ∈ [(⟨1, 0, ⟨#[]⟩⟩ : S35), ⟨1, 1, ⟨#[]⟩⟩], chapmanref06_Value.j0 (k + 1) false 1 sc tn b0 b1 = some (v.f0, v.f1, v.f2) := by
  simp only [chapmanref06_Value.j0]
  rw [if_neg (by decide), if_pos trivial]
  cases (Int.tmod b1 2 == 1)
  · exact ⟨_, List.mem_cons_self, rfl⟩
  · exact ⟨_, List.mem_cons_of_mem _ List.mem_cons_self, rfl⟩
theorem j0_nul (f0 sc : Int) (tn : Bool) (b0 b1 : Int) : chapmanref06_Value.j0 100 true f0 sc tn b0 b1 = some (nul.f0, nul.f1, nul.f2) := rfl
theorem val_f {t : S63} (ht : t ∈ ty7) {b0 b1 : Int} (h1 : 0 ≤ b1 ∧ b1 < 256) : ∃ v ∈ VT t, chapmanref06_Value.f 100 t.f0 t.f1 t.f2 b0 b1 = some (v.f0, v.f1, v.f2) := by
  have s0 : chapmanref06_Step.f 99 0 = some (stepS 0) := by kernel_rfl
  have s2 : chapmanref06_Step.f 99 2 = some (stepS 2) := by kernel_rfl
  have key : ∀ t : S63, (∃ v ∈ (if t.f0 = 1 then [(⟨1, 0, ⟨#[]⟩⟩ : S35), ⟨1, 1, ⟨#[]⟩⟩] else if t.f0 = 2 then vNum 1000000 ++ vNum (stepS t.f1) else vTxt), chapmanref06_Value.j0 100 false t.f0 t.f1 t.f2 b0 b1 = some (v.f0, v.f1, v.f2)) → ∃ v ∈ VT t, chapmanref06_Value.f 100 t.f0 t.f1 t.f2 b0 b1 = some (v.f0, v.f1, v.f2) := by
    intro t ⟨v, hv, h⟩
    unfold chapmanref06_Value.f VT
    cases htn : t.f2
    · rw [htn] at h
      exact ⟨v, List.mem_append_right _ hv, h⟩
    · rw [htn] at h
      rw [if_pos rfl]
      cases (Int.tmod b0 5 == 0)
      · exact ⟨v, List.mem_append_right _ hv, h⟩
      · exact ⟨nul, List.mem_append_left _ (by simp), j0_nul t.f0 t.f1 true b0 b1⟩
  refine key t ?_
  simp only [ty7, List.mem_cons, List.not_mem_nil, or_false] at ht
  rcases ht with rfl | rfl | rfl | rfl | rfl | rfl | rfl
  · exact j0_num (k := 99) 2 _ _ _ s2 h1.1
  · exact j0_txt (k := 99) _ _ _ _ h1
  · exact j0_bool (k := 99) _ _ _ _
  · exact j0_num (k := 99) 0 _ _ _ s0 h1.1
  · exact j0_txt (k := 99) _ _ _ _ h1
  · exact j0_bool (k := 99) _ _ _ _
  · exact j0_num (k := 99) 0 _ _ _ s0 h1.1
end Go.Proofs.YteflfnjljjianaaGreatDoor.Qx
namespace Go.Proofs.YteflfnjljjianaaGreatDoor.Qx
open Go.RowKit Go.Proofs.YteflfnjljjianaaGreatDoorW.PrintWords Go.Proofs.YteflfnjljjianaaGreatDoorW.PrintLast Go.Proofs.YteflfnjljjianaaGreatDoorW.PrintMore
set_option linter.unusedVariables false
def tyK (m : Nat) : S63 := ⟨1 + (m : Int), 0, false⟩
def VK (m : Nat) : List S35 := if m = 1 then vNum 1000000 else VT (tyK m)
theorem VK_mem {m : Nat} {v : S35} (h : v ∈ VT (tyK m)) : v ∈ VK m := by
  unfold VK
  split
  · rename_i hc
    subst hc
    have h2 : v ∈ vNum 1000000 ++ vNum 1000000 := h
    exact (List.mem_append.1 h2).elim id id
  · exact h
def okOf (N : Nat) (v : S35) : Bool := match partition_of.f 100 2 0 (N : Int) v.f0 v.f1 v.f2 with
  | some (a, b, c) => a == 2 && decide (0 ≤ b) && decide (b % 1000000 = 0) && decide (b < (N : Int) * 1000000) && c.data.size == 0
  | none => false
def okPoss (m N : Nat) : Bool := (partition_Valid.f [tyK m] 2 0 (N : Int) == some true) && ((List.range N).all fun i => partition_Possible.f 100 [tyK m] 2 0 (N : Int) 2 ((i : Int) * 1000000) ⟨#[]⟩ == some true) && (partition_Possible.f 100 [tyK m] 2 0 (N : Int) 2 ((N : Int) * 1000000) ⟨#[]⟩ == some false)
def openK (m : Nat) : Option S82 := (partition_open.f 100 (tyK m).f0 (tyK m).f1 (tyK m).f2).map s82
def okNever (m : Nat) : Bool := match openK m with | some x => (VK m).all fun v => bounds_Never.f 100 x v == some false | none => false
def chkOf (m : Nat) : Bool := (List.range 64).all fun N => (VK m).all (okOf (N + 1))
def chkPoss (m : Nat) : Bool := (List.range 64).all fun N => okPoss m (N + 1)
set_option maxRecDepth 1000000
theorem chkNever_all : (List.range 3).all okNever = true := by kernel_rfl
theorem chkPoss_all : (List.range 3).all chkPoss = true := by kernel_rfl
theorem chkOf_0 : chkOf 0 = true := by kernel_rfl
theorem chkOf_1 : chkOf 1 = true := by kernel_rfl
theorem chkOf_2 : chkOf 2 = true := by kernel_rfl
theorem of_some {m N : Nat} (hm : m < 3) (h0 : 0 < N) (hN : N ≤ 64) {v : S35} (hv : v ∈ VT (tyK m)) : ∃ B : Nat, B < N ∧ partition_of.f 100 2 0 (N : Int) v.f0 v.f1 v.f2 = some (2, (B : Int) * 1000000, ⟨#[]⟩) := by
  have hc : chkOf m = true := by
    match m, hm with
    | 0, _ => exact chkOf_0
    | 1, _ => exact chkOf_1
    | 2, _ => exact chkOf_2
  have h := List.all_eq_true.1 (List.all_eq_true.1 hc (N - 1) (List.mem_range.2 (by omega))) v (VK_mem hv)
  rw [show N - 1 + 1 = N by omega] at h
  unfold okOf at h
  revert h
  cases partition_of.f 100 2 0 (N : Int) v.f0 v.f1 v.f2 with
  | none => intro h; exact absurd h (by simp)
  | some r =>
    obtain ⟨a, b, c⟩ := r
    intro h
    simp only [Bool.and_eq_true, beq_iff_eq, decide_eq_true_eq] at h
    obtain ⟨⟨⟨⟨h1, h2⟩, h3⟩, h4⟩, h5⟩ := h
    have ec : c = ⟨#[]⟩ := by
      cases c with
      | mk d => exact congrArg ByteArray.mk (Array.eq_empty_of_size_eq_zero h5)
    refine ⟨(b / 1000000).toNat, by omega, ?_⟩
    rw [ec, h1, show (((b / 1000000).toNat : Nat) : Int) * 1000000 = b by omega]
theorem poss_of {m N : Nat} (hm : m < 3) (h0 : 0 < N) (hN : N ≤ 64) : partition_Valid.f [tyK m] 2 0 (N : Int) = some true ∧ (∀ i : Nat, i < N → partition_Possible.f 100 [tyK m] 2 0 (N : Int) 2 ((i : Int) * 1000000) ⟨#[]⟩ = some true) ∧ partition_Possible.f 100 [tyK m] 2 0 (N : Int) 2 ((N : Int) * 1000000) ⟨#[]⟩ = some false := by
  have h := List.all_eq_true.1 (List.all_eq_true.1 chkPoss_all m (List.mem_range.2 hm)) (N - 1) (List.mem_range.2 (by omega))
  rw [show N - 1 + 1 = N by omega] at h
  unfold okPoss at h
  simp only [Bool.and_eq_true, beq_iff_eq] at h
  exact ⟨h.1.1, fun i hi => by simpa using List.all_eq_true.1 h.1.2 i (List.mem_range.2 hi), h.2⟩
theorem never_of {m : Nat} (hm : m < 3) : ∃ x, openAll 100 [tyK m] = some [x] ∧ ∀ v ∈ VT (tyK m), bounds_Never.f 100 x v = some false := by
  have h := List.all_eq_true.1 chkNever_all m (List.mem_range.2 hm)
  unfold okNever at h
  cases hx : openK m with
  | none => rw [hx] at h; exact absurd h (by simp)
  | some x =>
    rw [hx] at h
    refine ⟨x, ?_, fun v hv => by simpa using List.all_eq_true.1 h v (VK_mem hv)⟩
    unfold openK at hx
    obtain ⟨r, hr, e⟩ := Option.map_eq_some_iff.1 hx
    unfold openAll
    rw [hr]
    show some [s82 r] = some [x]
    rw [e]
theorem bounds_of {m N : Nat} {x : S82} (hx : openAll 100 [tyK m] = some [x]) {b : Int} (hp : partition_Possible.f 100 [tyK m] 2 0 (N : Int) 2 b ⟨#[]⟩ = some true) : partition_Bounds.f 100 [tyK m] 2 0 (N : Int) 2 b ⟨#[]⟩ = some ([x], 0) := by
  unfold partition_Bounds.f
  rw [if_pos (by simp), hp]
  simp only [Option.bind_some, if_true, hx]
  rfl
theorem cmp_self (b : Int) : chapmanref06_Cmp.f 100 2 b ⟨#[]⟩ 2 b ⟨#[]⟩ = some 0 := by
  unfold chapmanref06_Cmp.f
  rw [if_pos rfl, if_pos rfl]
  rfl
theorem Of_one {N : Int} {v p : S35} (h : partition_of.f 100 2 0 N v.f0 v.f1 v.f2 = some (p.f0, p.f1, p.f2)) : partition_Of.f 100 2 0 N [v] = some (p.f0, p.f1, p.f2) := by
  unfold partition_Of.f
  rw [if_neg (by decide), if_pos (by decide), if_pos (by simp)]
  show (partition_of.f 100 2 0 N v.f0 v.f1 v.f2).bind _ = _
  rw [h]
  rfl
theorem ty_mem {m : Nat} (hm : m < 3) : tyK m ∈ ty7 := by
  match m, hm with
  | 0, _ => exact List.mem_cons_of_mem _ (List.mem_cons_of_mem _ List.mem_cons_self)
  | 1, _ => exact List.mem_cons_of_mem _ (List.mem_cons_of_mem _ (List.mem_cons_of_mem _ (List.mem_cons_of_mem _ (List.mem_cons_of_mem _ (List.mem_cons_of_mem _ List.mem_cons_self)))))
  | 2, _ => exact List.mem_cons_of_mem _ List.mem_cons_self
theorem bkt_pure {kd nn b0 b1 b2 b3 : Int} (hkd : 0 ≤ kd ∧ kd < 256) (hnn : 0 ≤ nn ∧ nn < 256) (h1 : 0 ≤ b1 ∧ b1 < 256) (h3 : 0 ≤ b3 ∧ b3 < 256) :
    ∃ (k1 : Int) (N : Nat) (v u p q : S35) (B : Nat) (L : List S82), 1 + kd % 3 = k1 ∧ 1 + nn % 64 = (N : Int) ∧ N ≤ 64 ∧ chapmanref06_Value.f 100 k1 0 false b0 b1 = some (v.f0, v.f1, v.f2) ∧ chapmanref06_Value.f 100 k1 0 false b2 b3 = some (u.f0, u.f1, u.f2) ∧
      partition_of.f 100 2 0 (N : Int) v.f0 v.f1 v.f2 = some (p.f0, p.f1, p.f2) ∧ partition_Of.f 100 2 0 (N : Int) [v] = some (p.f0, p.f1, p.f2) ∧ partition_Of.f 100 2 0 (N : Int) [u] = some (q.f0, q.f1, q.f2) ∧
      ((v.f0 == u.f0 && (v.f1 == u.f1 && v.f2.toList == u.f2.toList)) = true → (p.f0 == q.f0 && (p.f1 == q.f1 && p.f2.toList == q.f2.toList)) = true) ∧
      partition_Valid.f [⟨k1, 0, false⟩] 2 0 (N : Int) = some true ∧ B < N ∧ p = ⟨2, (B : Int) * 1000000, ⟨#[]⟩⟩ ∧ (0 : Int) < (L.length : Int) ∧ bounds_Never.f 100 (rd_T82 L 0) v = some false ∧
      (∀ i : Nat, i < N → partition_Possible.f 100 [⟨k1, 0, false⟩] 2 0 (N : Int) 2 ((i : Int) * 1000000) ⟨#[]⟩ = some true ∧ partition_Bounds.f 100 [⟨k1, 0, false⟩] 2 0 (N : Int) 2 ((i : Int) * 1000000) ⟨#[]⟩ = some (L, 0)) ∧
      partition_Possible.f 100 [⟨k1, 0, false⟩] 2 0 (N : Int) 2 ((N : Int) * 1000000) ⟨#[]⟩ = some false ∧ chapmanref06_Cmp.f 100 p.f0 p.f1 p.f2 p.f0 p.f1 p.f2 = some 0 := by
  obtain ⟨m, hm, hm3⟩ : ∃ m : Nat, kd % 3 = (m : Int) ∧ m < 3 := ⟨(kd % 3).toNat, by omega, by omega⟩
  obtain ⟨N, hN, hN0, hN64⟩ : ∃ N : Nat, 1 + nn % 64 = (N : Int) ∧ 0 < N ∧ N ≤ 64 := ⟨(1 + nn % 64).toNat, by omega, by omega, by omega⟩
  obtain ⟨v, hv, hvf⟩ := val_f (t := tyK m) (ty_mem hm3) (b0 := b0) h1
  obtain ⟨u, hu, huf⟩ := val_f (t := tyK m) (ty_mem hm3) (b0 := b2) h3
  obtain ⟨B, hB, hof⟩ := of_some hm3 hN0 hN64 hv
  obtain ⟨C, hC, hof2⟩ := of_some hm3 hN0 hN64 hu
  obtain ⟨hval, hpo, hno⟩ := poss_of hm3 hN0 hN64
  obtain ⟨x, hx, hnv⟩ := never_of hm3
  refine ⟨1 + (m : Int), N, v, u, ⟨2, (B : Int) * 1000000, ⟨#[]⟩⟩, ⟨2, (C : Int) * 1000000, ⟨#[]⟩⟩, B, [x], by rw [hm], hN, hN64, hvf, huf, hof, Of_one (p := ⟨2, (B : Int) * 1000000, ⟨#[]⟩⟩) hof, Of_one (p := ⟨2, (C : Int) * 1000000, ⟨#[]⟩⟩) hof2, fun h => ?_, hval, hB, rfl, by simp, hnv v hv, fun i hi => ⟨hpo i hi, bounds_of hx (hpo i hi)⟩, hno, cmp_self _⟩
  have e : v = u := by
    simp only [Bool.and_eq_true, beq_iff_eq] at h
    obtain ⟨e0, e1, e2⟩ := h
    rw [Lib.toList_data, Lib.toList_data] at e2
    obtain ⟨v0, v1, v2⟩ := v
    obtain ⟨u0, u1, u2⟩ := u
    cases v2
    cases u2
    simp only at e0 e1 e2
    subst e0 e1
    congr 2
    exact Array.toList_inj.1 e2
  subst e
  rw [hof] at hof2
  have e3 := Option.some.inj hof2
  injection e3 with _ e3
  injection e3 with e3 _
  simp [e3]
end Go.Proofs.YteflfnjljjianaaGreatDoor.Qx
namespace Go.Proofs.YteflfnjljjianaaGreatDoor
namespace Rw
open Go.ChangeShapes Go.WideShapes Go.ChangeAt Go.RowKit Go.Proofs.YteflfnjljjianaaGreatDoor.Qx Go.Proofs.YteflfnjljjianaaGreatDoorW.PrintWords Go.Proofs.YteflfnjljjianaaGreatDoorW.PrintLast Go.Proofs.YteflfnjljjianaaGreatDoorW.PrintMore
set_option linter.unusedVariables false
theorem own : ownKnob Tryz.prog.godebug = none := by kernel_rfl
theorem laidOut : laidOutB Tryz.prog = true := by kernel_rfl
theorem gv : Tryz.prog.globalNamed "chapman/value.steps" = some 1 := by kernel_rfl
theorem gd : Tryz.prog.globalNamed "chapman/decimal.steps" = some 2 := by kernel_rfl
theorem gvt : (Tryz.prog.globals[1]?).map (·.type) = some 172 := by kernel_rfl
theorem gdt : (Tryz.prog.globals[2]?).map (·.type) = some 172 := by kernel_rfl
theorem cells3 : Tryz.prog.cellsOf 3 = 1 := by kernel_rfl
theorem cells5 : Tryz.prog.cellsOf 5 = 1 := by kernel_rfl
theorem table_of {W : World} {sp : Nat → Bool} {fuel : Nat} {cs : Array Value} {p : List MemPlace}
    (h : DataW.trod (fun _ => ()) Tryz.prog W 0 sp false fuel 172 cs.toList = some (DataW.agg [.lit (.int .i64 1000000), .lit (.int .i64 100000), .lit (.int .i64 10000), .lit (.int .i64 1000), .lit (.int .i64 100), .lit (.int .i64 10), .lit (.int .i64 1)], p)) :
    ∀ i : Nat, i < 7 → cs[i]? = some (.int .i64 (stepN i)) := by
  obtain ⟨xs, m, _, hx, hl, hxl, hg⟩ := DataW.trod_array Tryz.underlying172 h
  rw [cells3] at hg
  have key : ∀ i (x : DataW Unit × List MemPlace), i < 7 → xs[i]? = some x → ∃ n, cs[i]? = some (.int .i64 n) ∧ x.1 = .lit (.int .i64 n) := by
    intro i x hi hxi
    have h1 := hg i hi
    rw [hxi] at h1
    obtain ⟨n, e, hx, _⟩ := DataW.trod_int Tryz.underlying3 h1
    refine ⟨n, ?_, by rw [hx]⟩
    have h2 : ((cs.toList.drop (i * 1)).take 1)[0]? = some (.int .i64 n) := by rw [e]; rfl
    rw [List.getElem?_take, if_pos (by omega), List.getElem?_drop] at h2
    simpa using h2
  have hm := (Prod.mk.inj hx).1
  injection hm with hm
  match xs, hxl, hm, key with
  | [x0, x1, x2, x3, x4, x5, x6], _, hm, key =>
    simp only [List.map_cons, List.map_nil, List.cons.injEq, and_true] at hm
    obtain ⟨e0, e1, e2, e3, e4, e5, e6⟩ := hm
    intro i hi
    match i, hi with
    | 0, hi => obtain ⟨n, hc, hn⟩ := key 0 x0 hi rfl; rw [← e0] at hn; injection hn with hn; injection hn with _ hn; rw [hc, ← hn]; rfl
    | 1, hi => obtain ⟨n, hc, hn⟩ := key 1 x1 hi rfl; rw [← e1] at hn; injection hn with hn; injection hn with _ hn; rw [hc, ← hn]; rfl
    | 2, hi => obtain ⟨n, hc, hn⟩ := key 2 x2 hi rfl; rw [← e2] at hn; injection hn with hn; injection hn with _ hn; rw [hc, ← hn]; rfl
    | 3, hi => obtain ⟨n, hc, hn⟩ := key 3 x3 hi rfl; rw [← e3] at hn; injection hn with hn; injection hn with _ hn; rw [hc, ← hn]; rfl
    | 4, hi => obtain ⟨n, hc, hn⟩ := key 4 x4 hi rfl; rw [← e4] at hn; injection hn with hn; injection hn with _ hn; rw [hc, ← hn]; rfl
    | 5, hi => obtain ⟨n, hc, hn⟩ := key 5 x5 hi rfl; rw [← e5] at hn; injection hn with hn; injection hn with _ hn; rw [hc, ← hn]; rfl
    | 6, hi => obtain ⟨n, hc, hn⟩ := key 6 x6 hi rfl; rw [← e6] at hn; injection hn with hn; injection hn with _ hn; rw [hc, ← hn]; rfl
def laidL : List (String × DataW Unit) := [("chapman/decimal.steps", Rows.laid_chapman_decimal_steps), ("chapman/value.steps", Rows.laid_chapman_value_steps)]
theorem laid_of {W : World} (h : laidMetH Tryz.prog laidL W) : Laid W := by
  obtain ⟨ps, ⟨g, t, cs, fuel, p, q, hg, ht, hc, hd, ⟨g', t', cs', fuel', p', q', hg', ht', hc', hd', _⟩, _⟩, _⟩ := (show laidMet Tryz.prog laidL W from h)
  obtain rfl := Option.some.inj (gd.symm.trans hg)
  obtain rfl := Option.some.inj (gdt.symm.trans ht)
  obtain rfl := Option.some.inj (gv.symm.trans hg')
  obtain rfl := Option.some.inj (gvt.symm.trans ht')
  exact ⟨fun i hi => (World.var?_cell gv hc' i).trans (table_of hd' i hi), fun i hi => (World.var?_cell gd hc i).trans (table_of hd i hi)⟩
noncomputable def tblW (w : World) : World :=
  { w with heap := (w.heap.modify 1 fun
      | .cells _ t frozen => .cells #[.int .i64 1000000, .int .i64 100000, .int .i64 10000, .int .i64 1000, .int .i64 100, .int .i64 10, .int .i64 1] t frozen
      | o => o).modify 2 fun
      | .cells _ t frozen => .cells #[.int .i64 1000000, .int .i64 100000, .int .i64 10000, .int .i64 1000, .int .i64 100, .int .i64 10, .int .i64 1] t frozen
      | o => o }
noncomputable def laidW (os : Os) : World := tblW (World.holding Tryz.prog os ⟨#[], #[], []⟩)
theorem laidW_met (os : Os) (args : Array Value) : laidMetH Tryz.prog laidL ((laidW os).forCall (fun _ _ => 0) ⟨#[], args, []⟩).memory :=
  show laidMet Tryz.prog laidL _ from laidMet_of_run' 8 (by kernel_rfl) (by kernel_rfl)
theorem cells77 : Tryz.prog.cellsOf 77 = 4 := by kernel_rfl
set_option maxRecDepth 100000 in
theorem byte_of {H : Type} {enc : TypeId × Value → H} {W : World} {base : Nat} {v : Value} {d : DataW H} {p : List MemPlace} (hv : Value.okWide Tryz.prog W .any base 5 v) (h : DataW.Trod enc Tryz.prog W 0 (fun _ => true) true 5 v d p) : ∃ b : Int, v = .int .u8 b ∧ 0 ≤ b ∧ b < 256 := by
  obtain ⟨n, rfl⟩ := okWide_int Tryz.underlying5 hv
  obtain ⟨fuel, hf⟩ := h
  obtain ⟨n', e, _, w⟩ := DataW.trod_int Tryz.underlying5 hf
  simp [Value.cells] at e
  subst e
  refine ⟨n, rfl, ?_⟩
  simp [Lit.wf, IntKind.min, IntKind.max, IntKind.signed, IntKind.bits] at w
  omega
set_option maxRecDepth 100000 in
theorem four_of {H : Type} {enc : TypeId × Value → H} {W : World} {base : Nat} {v : Value} {d : DataW H} {p : List MemPlace} (hv : Value.okWide Tryz.prog W .any base 77 v) (h : DataW.Trod enc Tryz.prog W 0 (fun _ => true) true 77 v d p) :
    ∃ b0 b1 b2 b3 : Int, v = .agg #[.int .u8 b0, .int .u8 b1, .int .u8 b2, .int .u8 b3] ∧ (0 ≤ b0 ∧ b0 < 256) ∧ (0 ≤ b1 ∧ b1 < 256) ∧ (0 ≤ b2 ∧ b2 < 256) ∧ (0 ≤ b3 ∧ b3 < 256) := by
  have wfb : ∀ x : Int, (Lit.int .u8 x).wf = true → 0 ≤ x ∧ x < 256 := fun x h => by
    simp [Lit.wf, IntKind.min, IntKind.max, IntKind.signed, IntKind.bits] at h
    omega
  obtain ⟨cs, rfl, hsz, _⟩ : ∃ cs, v = .agg cs ∧ cs.size = Tryz.prog.cellsOf 77 ∧ Row.okWide Tryz.prog W .any base 77 cs := by
    simpa [Value.okWide, Tryz.underlying77] using hv
  rw [cells77] at hsz
  obtain ⟨l⟩ := cs
  match l, hsz, h with
  | [s0, s1, s2, s3], _, h =>
    obtain ⟨fuel, hf⟩ := h
    obtain ⟨xs, m, _, _, _, hxl, hg⟩ := DataW.trod_array Tryz.underlying77 hf
    rw [cells5] at hg
    match xs, hxl, hg with
    | [x0, x1, x2, x3], _, hg =>
      obtain ⟨y0, e0, _, w0⟩ := DataW.trod_int Tryz.underlying5 (hg 0 (by omega))
      obtain ⟨y1, e1, _, w1⟩ := DataW.trod_int Tryz.underlying5 (hg 1 (by omega))
      obtain ⟨y2, e2, _, w2⟩ := DataW.trod_int Tryz.underlying5 (hg 2 (by omega))
      obtain ⟨y3, e3, _, w3⟩ := DataW.trod_int Tryz.underlying5 (hg 3 (by omega))
      simp [Value.cells] at e0 e1 e2 e3
      subst e0 e1 e2 e3
      exact ⟨y0, y1, y2, y3, rfl, wfb _ w0, wfb _ w1, wfb _ w2, wfb _ w3⟩
set_option maxRecDepth 100000 in
theorem bkt_lifted (os : Os) (started : os.Started) (H : Type) (enc : TypeId × Value → H) :
    ReturnsInHanded {} Tryz.checked os 6 .any (fun w args => (Rows.partitionBucketsSpec.pre enc Tryz.prog Tryz.f6 [] false w args ∧ laidMetH Tryz.prog laidL w) ∧ sizedMet enc Tryz.prog Tryz.f6 (OpenSpec.ofChange Rows.partitionBucketsSpec) false w args)
      (Rows.partitionBucketsSpec.post enc Tryz.prog Tryz.f6 false true false false) := by
  refine returnsInHanded_of_change_and (C := Tryz.checked) (X := fun w _ => laidMetH Tryz.prog laidL w) (fun _ _ _ hh h => h.of_heap hh) own started (by kernel_rfl) Tryz.func6
    (ChangeSpec.witness_at (enc := enc) (C := Tryz.checked) (os := os) (X := fun w _ => laidMetH Tryz.prog laidL w) false (laidW os) #[.int .u8 0, .int .u8 0, .agg #[.int .u8 0, .int .u8 0, .int .u8 0, .int .u8 0]] 8 rfl (by kernel_rfl) (by kernel_rfl) (by kernel_rfl) (by kernel_rfl) (by kernel_rfl) (laidW_met os _)) ?_
  intro W base args ds gs before hval0 hW _ _ hL _
  have hval : ∀ (j : Nat) t v, Tryz.f6.params[j]? = some t → args[j]? = some v → Value.okWide Tryz.prog W .any base t v := hval0
  have hW' := hW
  obtain ⟨p, q, hA0, hV, rfl, hfz, hnd⟩ := hW
  have hA : DataW.TrodAll enc Tryz.prog W 0 (fun _ => true) true Tryz.f6.params.toList args.toList ds p := hA0
  rw [Tryz.params6] at hA hval
  obtain ⟨v0, vs0, d0, ds0, p0, q0, hargs, rfl, rfl, h0, r0⟩ := trodAll_cons hA
  obtain ⟨v1, vs1, d1, ds1, p1, q1, rfl, rfl, rfl, h1, r1⟩ := trodAll_cons r0
  obtain ⟨v2, vs2, d2, ds2, p2, q2, rfl, rfl, rfl, h2, r2⟩ := trodAll_cons r1
  obtain ⟨rfl, rfl, rfl⟩ := trodAll_nil r2
  obtain rfl : args = #[v0, v1, v2] := by cases args; simp_all
  obtain ⟨rfl, rfl⟩ := trodVars_none hV
  have k0 := h0
  have k1 := h1
  have k2 := h2
  have lt0 : ∀ x ∈ p0, x.block < W.heap.size := by obtain ⟨m, hm⟩ := k0; exact DataW.trod_lt m _ _ _ hm
  have lt1 : ∀ x ∈ p1, x.block < W.heap.size := by obtain ⟨m, hm⟩ := k1; exact DataW.trod_lt m _ _ _ hm
  have lt2 : ∀ x ∈ p2, x.block < W.heap.size := by obtain ⟨m, hm⟩ := k2; exact DataW.trod_lt m _ _ _ hm
  obtain ⟨kd, rfl, hkd⟩ := byte_of (hval 0 5 v0 rfl rfl) h0
  obtain ⟨nn, rfl, hnn⟩ := byte_of (hval 1 5 v1 rfl rfl) h1
  obtain ⟨b0, b1, b2, b3, rfl, hb0, hb1, hb2, hb3⟩ := four_of (hval 2 77 v2 rfl rfl) h2
  obtain ⟨kk, N, v, u, p', q', B, L, g1, g2, g3, g4, g5, g6, g7, g8, g9, g10, g11, g12, g13, g14, g15, g16, g17⟩ := bkt_pure (b0 := b0) (b2 := b2) hkd hnn hb1 hb3
  clear hA0 hval0
  refine (chapmanlaw32_PartitionBuckets.calls kd nn b0 b1 b2 b3 W (laid_of hL) hkd hnn kk g1 N g2 g3 v u p' q' g4 g5 g6 g7 g8 g9 g10 B g11 g12 L g13 g14 g15 g16 g17).mono fun e W' ⟨he, bel⟩ => ?_
  subst he
  exact ⟨_, rfl, _, _, _, [], _, [], hW', trodAll_mk1 (shut_bool Tryz.underlying4 _),
    trodAll_cons_mk (Below.trod laidOut (by kernel_rfl) (of_decide_eq_true (by kernel_rfl)) k0 bel lt0) (trodAll_cons_mk (Below.trod laidOut (by kernel_rfl) (of_decide_eq_true (by kernel_rfl)) k1 bel lt1) (trodAll_cons_mk (Below.trod laidOut (by kernel_rfl) (of_decide_eq_true (by kernel_rfl)) k2 bel lt2) trodAll_mk0)), rfl, bel.frame _, fun h => by cases h⟩
theorem bkt_row : Rows.PartitionBucketsSaid :=
  OpenClaim.holds_of_wide 6 Tryz.f6 rfl rfl rfl rfl rfl rfl rfl ⟨rfl, rfl, rfl, rfl, rfl⟩ rfl rfl rfl rfl rfl (by kernel_rfl) Tryz.func6 (by kernel_rfl)
    (of_decide_eq_true (by kernel_rfl)) (by unfold Func.isWrapper; first | (rw [if_pos (by decide +kernel)]; kernel_rfl) | (rw [if_neg (by decide +kernel)]; exact ⟨rfl, rfl⟩))
    (fun os started H enc _ => bkt_lifted os started H enc)
theorem bkt_card : Rows.PartitionBucketsCardSaid :=
  Claim7.holds_tied_plain_at .later [] [.data, .data] true (true, "ce419de17c798dc981aef98fc54f8a5232ef72c256b58cd68ef6717b0c115c19") false
    bkt_row (fun _ h => by cases h) (by kernel_rfl) (fun _ h => by cases h) partitionBuckets_row_tie rfl ⟨rfl, rfl⟩ (by kernel_rfl) rfl
    (fun f fn hf hfn => by
      obtain rfl : f = 6 := Option.some.inj ((show Tryz.prog.funcNamed "chapman/chapmanlaw32.PartitionBuckets" = some 6 by kernel_rfl).symm.trans hf) |>.symm
      obtain rfl : fn = Tryz.f6 := (Option.some.inj (Tryz.func6.symm.trans hfn)).symm
      exact ⟨by kernel_rfl, fun j t ht => by
        rw [Tryz.params6] at ht
        rcases j with _ | _ | _ | j
        · obtain rfl : 5 = t := by simpa using ht
          exact (show Tryz.prog.wantsStandIn 5 = false by kernel_rfl)
        · obtain rfl : 5 = t := by simpa using ht
          exact (show Tryz.prog.wantsStandIn 5 = false by kernel_rfl)
        · obtain rfl : 77 = t := by simpa using ht
          exact (show Tryz.prog.wantsStandIn 77 = false by kernel_rfl)
        · simp at ht⟩)
    (by kernel_rfl)
#print axioms bkt_card
end Rw
end Go.Proofs.YteflfnjljjianaaGreatDoor
