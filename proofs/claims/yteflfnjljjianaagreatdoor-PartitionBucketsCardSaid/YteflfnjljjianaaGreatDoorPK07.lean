/- Part of a proof of PartitionBucketsCardSaid: functions of the given program and what they compute, each checked by the kernel. -/
import Derived.Test.YteflfnjljjianaaGreatDoorPK02
import Derived.Test.YteflfnjljjianaaGreatDoorPK06
import Derived.Test.YteflfnjljjianaaGreatDoorPK03
import Derived.Test.YteflfnjljjianaaGreatDoorPK04
import Derived.Deep.RegionHeld3
import Derived.WalkKit
namespace Go.Proofs.YteflfnjljjianaaGreatDoor.Qx
open Go.RowKit Go.Proofs.YteflfnjljjianaaGreatDoorW.PrintWords Go.Proofs.YteflfnjljjianaaGreatDoorW.PrintLast Go.Proofs.YteflfnjljjianaaGreatDoorW.PrintMore
attribute [local go_sem] max2_int min2_int max_two min_two
set_option linter.unusedVariables false
set_option linter.unusedSimpArgs false
def c82 (x : S82) : List Value := [.int .i64 x.f0, .bool x.f1, .int .i64 x.f2.f0, .int .i64 x.f2.f1, .string x.f2.f2, .int .i64 x.f3.f0, .int .i64 x.f3.f1, .string x.f3.f2, .int .i64 x.f4]
def RowL (w : World) (g : Nat) (L : List S82) : Prop := w.heap[g]? = some (.cells (L.flatMap c82).toArray 82 (0, 0))
theorem flat_set9 (x : S82) : ∀ (L : List S82) (i : Nat), i < L.length → (((((((((L.flatMap c82).set (i * 9) (.int .i64 x.f0)).set (i * 9 + 1) (.bool x.f1)).set (i * 9 + 2) (.int .i64 x.f2.f0)).set (i * 9 + 3) (.int .i64 x.f2.f1)).set (i * 9 + 4) (.string x.f2.f2)).set (i * 9 + 5) (.int .i64 x.f3.f0)).set (i * 9 + 6) (.int .i64 x.f3.f1)).set (i * 9 + 7) (.string x.f3.f2)).set (i * 9 + 8) (.int .i64 x.f4) = (L.set i x).flatMap c82
  | [], _, h => absurd h (by simp)
  | y :: L, 0, _ => by simp [c82]
  | y :: L, i + 1, h => by
    have ih := flat_set9 x L i (by simpa using h)
    simp only [List.flatMap_cons, List.set_cons_succ, ← ih]
    simp only [show (i + 1) * 9 = i * 9 + 9 by omega, show i * 9 + 9 + 1 = i * 9 + 1 + 9 by omega, show i * 9 + 9 + 2 = i * 9 + 2 + 9 by omega, show i * 9 + 9 + 3 = i * 9 + 3 + 9 by omega, show i * 9 + 9 + 4 = i * 9 + 4 + 9 by omega, show i * 9 + 9 + 5 = i * 9 + 5 + 9 by omega, show i * 9 + 9 + 6 = i * 9 + 6 + 9 by omega, show i * 9 + 9 + 7 = i * 9 + 7 + 9 by omega, show i * 9 + 9 + 8 = i * 9 + 8 + 9 by omega]
    simp only [c82, List.cons_append, List.nil_append, List.set_cons_succ]
theorem flat_len : ∀ (L : List S82), (L.flatMap c82).length = L.length * 9
  | [] => rfl
  | y :: L => by simp [flat_len L, c82]; omega
theorem flat_get (L : List S82) (i j : Nat) (hi : i < L.length) (hj : j < 9) : (L.flatMap c82)[i * 9 + j]? = (c82 (L.getD i z82))[j]? := by
  induction L generalizing i with
  | nil => exact absurd hi (by simp)
  | cons y L ih =>
    cases i with
    | zero =>
      rw [List.flatMap_cons, List.getElem?_append_left (by simp [c82]; omega)]
      simp
    | succ i =>
      have h1 := ih i (by simpa using hi)
      rw [List.flatMap_cons, List.getElem?_append_right (by simp [c82]; omega)]
      simpa [c82, show (i + 1) * 9 + j - 9 = i * 9 + j by omega] using h1
theorem RowL.set {w : World} {g : Nat} {L : List S82} (h : RowL w g L) (i : Nat) (hi : i < L.length) (x : S82) : RowL ((((((((((w).setCell ⟨g, i * 9, none⟩ (.int .i64 x.f0)).setCell ⟨g, i * 9 + 1, none⟩ (.bool x.f1)).setCell ⟨g, i * 9 + 2, none⟩ (.int .i64 x.f2.f0)).setCell ⟨g, i * 9 + 3, none⟩ (.int .i64 x.f2.f1)).setCell ⟨g, i * 9 + 4, none⟩ (.string x.f2.f2)).setCell ⟨g, i * 9 + 5, none⟩ (.int .i64 x.f3.f0)).setCell ⟨g, i * 9 + 6, none⟩ (.int .i64 x.f3.f1)).setCell ⟨g, i * 9 + 7, none⟩ (.string x.f3.f2)).setCell ⟨g, i * 9 + 8, none⟩ (.int .i64 x.f4)) g (L.set i x) := by
  have := blk_set (blk_set (blk_set (blk_set (blk_set (blk_set (blk_set (blk_set (blk_set h (i * 9) (.int .i64 x.f0)) (i * 9 + 1) (.bool x.f1)) (i * 9 + 2) (.int .i64 x.f2.f0)) (i * 9 + 3) (.int .i64 x.f2.f1)) (i * 9 + 4) (.string x.f2.f2)) (i * 9 + 5) (.int .i64 x.f3.f0)) (i * 9 + 6) (.int .i64 x.f3.f1)) (i * 9 + 7) (.string x.f3.f2)) (i * 9 + 8) (.int .i64 x.f4)
  unfold RowL
  rw [this, ← flat_set9 x L i hi]
  simp only [List.setIfInBounds_toArray]
theorem RowL.cell {w : World} {g : Nat} {L : List S82} (h : RowL w g L) (i j : Nat) (hi : i < L.length) (hj : j < 9) : w.cell? ⟨g, i * 9 + j, none⟩ = (c82 (L.getD i z82))[j]? := by
  have h1 := blk_cell h (i * 9 + j)
  rw [h1, ← flat_get L i j hi hj]
  simp
def LiesL (w : World) (A : Option Addr) (L : List S82) : Prop := L = [] ∨ ∃ g, A = some ⟨g, 0, none⟩ ∧ RowL w g L
theorem RowL.reads {w : World} {g : Nat} {L : List S82} (h : RowL w g L) (hl : L.length ≤ 9223372036854775807) : Kd.C k82 w (some ⟨g, 0, none⟩) L.length L := by
  refine ⟨rfl, hl, fun _ => ⟨⟨g, 0, none⟩, rfl, fun j p hp => ⟨c82 p, rfl, k82_mk w p, fun i u hu => ?_⟩⟩⟩
  have hj : j < L.length := (List.getElem?_eq_some_iff.1 hp).1
  have hi : i < 9 := (List.getElem?_eq_some_iff.1 hu).1
  have e : (⟨g, 0, none⟩ : Addr).add (j * k82.sz + i) = ⟨g, j * 9 + i, none⟩ := by
    show (⟨g, 0, none⟩ : Addr).add (j * 9 + i) = _
    simp [Addr.add]
    intros
    omega
  rw [e, h.cell j i hj hi, List.getD_eq_getElem?_getD, hp]
  exact hu
attribute [local go_sem high] eqA35
theorem RowL.far {w : World} {g i : Nat} {x : S82} {h : Nat} {t : TypeId} {cs : Array Value} (hc : w.heap[h]? = some (.cells cs t (0, 0))) (hne : h ≠ g) : ((((((((((w).setCell ⟨g, i * 9, none⟩ (.int .i64 x.f0)).setCell ⟨g, i * 9 + 1, none⟩ (.bool x.f1)).setCell ⟨g, i * 9 + 2, none⟩ (.int .i64 x.f2.f0)).setCell ⟨g, i * 9 + 3, none⟩ (.int .i64 x.f2.f1)).setCell ⟨g, i * 9 + 4, none⟩ (.string x.f2.f2)).setCell ⟨g, i * 9 + 5, none⟩ (.int .i64 x.f3.f0)).setCell ⟨g, i * 9 + 6, none⟩ (.int .i64 x.f3.f1)).setCell ⟨g, i * 9 + 7, none⟩ (.string x.f3.f2)).setCell ⟨g, i * 9 + 8, none⟩ (.int .i64 x.f4)).heap[h]? = some (.cells cs t (0, 0)) :=
  blk_far (blk_far (blk_far (blk_far (blk_far (blk_far (blk_far (blk_far (blk_far hc hne _) hne _) hne _) hne _) hne _) hne _) hne _) hne _) hne _
theorem RowL.below {w0 w : World} {g i : Nat} {x : S82} (h : Below w0.heap.size w0 w) (hg : w0.heap.size ≤ g) : Below w0.heap.size w0 ((((((((((w).setCell ⟨g, i * 9, none⟩ (.int .i64 x.f0)).setCell ⟨g, i * 9 + 1, none⟩ (.bool x.f1)).setCell ⟨g, i * 9 + 2, none⟩ (.int .i64 x.f2.f0)).setCell ⟨g, i * 9 + 3, none⟩ (.int .i64 x.f2.f1)).setCell ⟨g, i * 9 + 4, none⟩ (.string x.f2.f2)).setCell ⟨g, i * 9 + 5, none⟩ (.int .i64 x.f3.f0)).setCell ⟨g, i * 9 + 6, none⟩ (.int .i64 x.f3.f1)).setCell ⟨g, i * 9 + 7, none⟩ (.string x.f3.f2)).setCell ⟨g, i * 9 + 8, none⟩ (.int .i64 x.f4)) :=
  below_set (below_set (below_set (below_set (below_set (below_set (below_set (below_set (below_set h hg) hg) hg) hg) hg) hg) hg) hg) hg
theorem partition_kinds.at0 (w : World) : (Instr.index 98 (.agg #[.nilFunc, .nilFunc, .nilFunc, .nilFunc, .func (.func 75) #[] #[], .func (.func 76) #[] #[], .func (.func 77) #[] #[], .func (.func 76) #[] #[], .func (.func 78) #[] #[], .func (.func 79) #[] #[], .func (.func 80) #[] #[], .nilFunc, .func (.func 81) #[] #[], .func (.func 82) #[] #[], .func (.func 83) #[] #[], .func (.func 84) #[] #[]]) (.int .i64 0)).run Tryz.prog w = .ok (.agg #[.nilFunc, .nilFunc, .nilFunc, .nilFunc]) w := by kernel_rfl
theorem partition_kinds.fld0_3 (w : World) : (Instr.field 97 (.agg #[.nilFunc, .nilFunc, .nilFunc, .nilFunc]) 3).run Tryz.prog w = .ok (.nilFunc) w := by kernel_rfl
theorem neF94_nil (w : World) : (binOp BinOp.neq 94 .nilFunc .nilFunc).run Tryz.prog w = .ok (.bool false) w := by kernel_rfl
theorem neF94_76 (w : World) : (binOp BinOp.neq 94 (.func (.func 76) #[] #[]) .nilFunc).run Tryz.prog w = .ok (.bool true) w := by kernel_rfl
theorem neF94_84 (w : World) : (binOp BinOp.neq 94 (.func (.func 84) #[] #[]) .nilFunc).run Tryz.prog w = .ok (.bool true) w := by kernel_rfl
attribute [local go_sem high] neF94_nil neF94_76 neF94_84
def s82 (r : Int × Bool × Int × Int × ByteArray × Int × Int × ByteArray × Int) : S82 := ⟨r.1, r.2.1, ⟨r.2.2.1, r.2.2.2.1, r.2.2.2.2.1⟩, ⟨r.2.2.2.2.2.1, r.2.2.2.2.2.2.1, r.2.2.2.2.2.2.2.1⟩, r.2.2.2.2.2.2.2.2⟩
def openAll (k : Nat) : List S63 → Option (List S82)
  | [] => some []
  | t :: l => (partition_open.f k t.f0 t.f1 t.f2).bind fun r => (openAll k l).map (s82 r :: ·)
def lastOf (k : Nat) (a b n p0 p1 : Int) (p2 : ByteArray) : Option (Int × Int × ByteArray) := if a = 1 then partition_spec_same.f a b n p0 p1 p2 else partition_spec_most.f a b n p0 p1 p2
def partition_Bounds.f (k : Nat) (l0 : List S63) (a b n p0 p1 : Int) (p2 : ByteArray) : Option (List S82 × Int) :=
  if l0.length ≤ 1000 then (partition_Possible.f k l0 a b n p0 p1 p2).bind fun ok => if ok = true then (openAll k l0).bind fun L => (if a = 1 ∨ a = 3 then if (p0 == 0 && (p1 == 0 && p2.toList.isEmpty)) = true then some (L.set b.toNat ⟨1, false, z35, z35, 0⟩) else (lastOf k a b n p0 p1 p2).map fun q => L.set b.toNat ⟨0, true, ⟨p0, p1, p2⟩, ⟨q.1, q.2.1, q.2.2⟩, 0⟩ else some L).map fun L => (L, 0) else some ([], 320) else none
theorem openAll.length {k : Nat} : ∀ {l : List S63} {L : List S82}, openAll k l = some L → L.length = l.length
  | [], L, h => by obtain rfl := Option.some.inj h; rfl
  | t :: l, L, h => by
    obtain ⟨r, _, h⟩ := Option.bind_eq_some_iff.1 h
    obtain ⟨M, hM, rfl⟩ := Option.map_eq_some_iff.1 h
    simp [openAll.length hM]
theorem openAll.get {k : Nat} : ∀ {l : List S63} {L : List S82}, openAll k l = some L → ∀ j, j < l.length → ∃ r, partition_open.f k (rd_T63 l j).f0 (rd_T63 l j).f1 (rd_T63 l j).f2 = some r ∧ L.getD j z82 = s82 r
  | [], _, _ => fun j hj => absurd hj (by simp)
  | t :: l, L, h => by
    obtain ⟨r, hr, h⟩ := Option.bind_eq_some_iff.1 h
    obtain ⟨M, hM, rfl⟩ := Option.map_eq_some_iff.1 h
    intro j hj
    cases j with
    | zero => exact ⟨r, by simpa [rd_T63] using hr, rfl⟩
    | succ j =>
      obtain ⟨q, hq, e⟩ := openAll.get hM j (by simpa using hj)
      refine ⟨q, ?_, by simpa using e⟩
      have : rd_T63 (t :: l) ((j + 1 : Nat) : Int) = rd_T63 l (j : Int) := by simp [rd_T63]
      rw [this]
      exact hq
theorem made82 (m : Nat) : madeCells #[.int .i64 0, .bool false, .int .i64 0, .int .i64 0, .string ⟨#[]⟩, .int .i64 0, .int .i64 0, .string ⟨#[]⟩, .int .i64 0] (m * 9) = ((List.replicate m z82).flatMap c82).toArray := by
  apply Array.ext
  · rw [size_madeCells, List.size_toArray, flat_len, List.length_replicate]
  · intro i h1 h2
    have hi : i < m * 9 := by simpa [size_madeCells] using h1
    have h3 := flat_get (List.replicate m z82) (i / 9) (i % 9) (by simp; omega) (Nat.mod_lt _ (by decide))
    rw [show i / 9 * 9 + i % 9 = i by omega] at h3
    have h4 : (List.replicate m z82).getD (i / 9) z82 = z82 := by
      simp [List.getD_eq_getElem?_getD, List.getElem?_replicate]
      split <;> rfl
    rw [h4] at h3
    have h5 : i % 9 < 9 := Nat.mod_lt _ (by decide)
    have h6 : (((List.replicate m z82).flatMap c82).toArray)[i]? = (c82 z82)[i % 9]? := by simpa using h3
    rw [Array.getElem?_eq_getElem h2] at h6
    refine Option.some.inj (Eq.trans ?_ h6.symm)
    simp only [madeCells, Array.getElem_map, Array.getElem_range]
    generalize i % 9 = q at *
    match q, h5 with
    | 0, _ => rfl
    | 1, _ => rfl
    | 2, _ => rfl
    | 3, _ => rfl
    | 4, _ => rfl
    | 5, _ => rfl
    | 6, _ => rfl
    | 7, _ => rfl
    | 8, _ => rfl
theorem bytes82 (m : Nat) (hm : m ≤ 1000) : (Tryz.t82.bytes : Int) * (m : Int) ≤ 281474976710656 := by
  have hb : Tryz.t82.bytes = 88 := by kernel_rfl
  rw [hb]
  omega
theorem setNext {α : Type} (z x : α) (OL : List α) (m j : Nat) (hm : OL.length = m) (hj : j < m) (hx : OL.getD j z = x) : (OL.take j ++ List.replicate (m - j) z).set j x = OL.take (j + 1) ++ List.replicate (m - (j + 1)) z := by
  have h1 : (OL.take j).length = j := by simp; omega
  have e : OL.take (j + 1) = OL.take j ++ [x] := by
    rw [List.take_succ_eq_append_getElem (by omega), ← hx, List.getD_eq_getElem?_getD, List.getElem?_eq_getElem (by omega)]
    rfl
  obtain ⟨q, hq⟩ : ∃ q, m - j = q + 1 := ⟨m - j - 1, by omega⟩
  rw [List.set_append_right _ _ (by omega), h1, Nat.sub_self, hq, List.replicate_succ, List.set_cons_zero, show m - (j + 1) = q by omega, e, List.append_assoc]
  rfl
theorem make82 (w : World) (m : Nat) (hm : m ≤ 1000) : (Instr.makeSlice 53 (.int .i64 (m : Int)) (.int .i64 (m : Int))).run Tryz.prog w = .ok (.slice (some ⟨w.heap.size, 0, none⟩) m m) (w.alloc (.cells ((List.replicate m z82).flatMap c82).toArray 82)) := by
  have h := run_makeSlice (P := Tryz.prog) w 53 82 Tryz.t82 (.agg #[.int .i64 0, .bool false, .int .i64 0, .int .i64 0, .string ⟨#[]⟩, .int .i64 0, .int .i64 0, .string ⟨#[]⟩, .int .i64 0]) Tryz.underlying53 (by kernel_rfl) (by kernel_rfl) .i64 .i64 m m (by omega) (Int.le_refl _) (by show (m : Int).toNat * 9 ≤ _; omega) (bytes82 m hm) (by omega)
  rw [show (m : Int).toNat = m from rfl] at h
  rw [h, ← made82]
  rfl
theorem partition_Possible.valid {k : Nat} {l0 : List S63} {a b n p0 p1 : Int} {p2 : ByteArray} (h : partition_Possible.f k l0 a b n p0 p1 p2 = some true) : partition_Valid.f l0 a b n = some true := by
  obtain ⟨v, hv, h⟩ := Option.bind_eq_some_iff.1 h
  cases v with
  | true => exact hv
  | false => exact absurd h (by simp)
theorem partition_Possible.kind {k : Nat} {l0 : List S63} {a b n p0 p1 : Int} {p2 : ByteArray} (h : partition_Possible.f k l0 a b n p0 p1 p2 = some true) : a = 0 ∨ a = 1 ∨ a = 2 ∨ a = 3 := by
  by_cases ha : a = 0
  · exact .inl ha
  · have := partition_Valid.attr (partition_Possible.valid h) ha
    omega
set_option maxRecDepth 100000 in
set_option maxHeartbeats 4000000 in
theorem partition_Bounds.calls (k : Nat) (A0 : Option Addr) (c0 : Nat) (l0 : List S63) (a b n : Int) (p0 p1 : Int) (p2 : ByteArray) (L : List S82) (e0 : Int) (w : World) (hr : Kd.C k63 w A0 l0.length l0) (hc : l0.length ≤ c0) (hG : Laid w) (h : partition_Bounds.f k l0 a b n p0 p1 p2 = some (L, e0)) :
    Calls Tryz.prog 50 #[.slice A0 l0.length c0, .agg #[.int .i64 a, .int .i64 b, .int .i64 n], .agg #[.int .i64 p0, .int .i64 p1, .string p2]] w fun e w' => ∃ A c, e = .returned (.tuple #[.slice A L.length c, .int .i64 e0]) ∧ Kd.C k82 w' A L.length L ∧ L.length ≤ c ∧ Below w.heap.size w w' ∧ (∀ ad, A = some ad → w.heap.size ≤ ad.block) ∧ LiesL w' A L := by
  have hu27 := Tryz.underlying27
  have hu35 := Tryz.underlying35
  have hu63 := Tryz.underlying63
  have hu82 := Tryz.underlying82
  have hu53 := Tryz.underlying53
  obtain ⟨hlen, ok, hok, h⟩ : l0.length ≤ 1000 ∧ ∃ ok, partition_Possible.f k l0 a b n p0 p1 p2 = some ok ∧ _ := by
    unfold partition_Bounds.f at h
    split at h
    · exact ⟨by assumption, Option.bind_eq_some_iff.1 h⟩
    · exact absurd h (by simp)
  have HO := Lib.hid hok
  have HR := Lib.hid hr
  have HG := Lib.hid hG
  have HH := Lib.hid h
  clear hok hr hG h
  go_enter Tryz.func50, Tryz.ntmps50
  go_wp2_with fail
  have B0 := blk_alloc (heap_alloc_new w (.cells #[.int .i64 a, .int .i64 b, .int .i64 n] 27)) (.cells #[.int .i64 p0, .int .i64 p1, .string p2] 35)
  have B1 := heap_alloc_new (w.alloc (.cells #[.int .i64 a, .int .i64 b, .int .i64 n] 27)) (.cells #[.int .i64 p0, .int .i64 p1, .string p2] 35)
  have hB := ((Below.refl w.heap.size w).alloc (Nat.le_refl _) (.cells #[.int .i64 a, .int .i64 b, .int .i64 n] 27)).alloc (by simp only [World.size_alloc]; omega) (.cells #[.int .i64 p0, .int .i64 p1, .string p2] 35)
  simp only [World.size_alloc] at B1
  generalize (w.alloc (.cells #[.int .i64 a, .int .i64 b, .int .i64 n] 27)).alloc (.cells #[.int .i64 p0, .int .i64 p1, .string p2] 35) = W at *
  refine (partition_Possible.calls k A0 c0 l0 a b n p0 p1 p2 ok _ (Kd.C_below HR.out hB) hc (HG.out.below hB) HO.out).mono ?_
  rintro e w1 ⟨rfl, hb1⟩
  replace hB := below_then hB hB.size hb1
  have C0 := blk_below B0 hb1
  have C1 := blk_below B1 hb1
  have D0 := Lib.hid C0
  have D1 := Lib.hid C1
  have HB := Lib.hid hB
  clear B0 B1 hb1 hB C0 C1
  cases ok with
  | false =>
    have h := HH.out
    rw [if_neg (by decide)] at h
    obtain ⟨rfl, rfl⟩ := Prod.mk.inj (Option.some.inj h)
    clear h HH
    go_wp2
    refine bodyPost_ret (v := .tuple #[.slice none 0 0, .int .i64 320]) (by simp [results, Tryz.results50, go_sem, *]) rfl ⟨none, 0, rfl, Kd.C_nil _ _, Nat.le_refl _, HB.out, (fun _ e => by cases e), Or.inl rfl⟩
  | true =>
    have h := HH.out
    rw [if_pos rfl] at h
    obtain ⟨OL, hOL, h⟩ := Option.bind_eq_some_iff.1 h
    obtain ⟨L', hL', e1⟩ := Option.map_eq_some_iff.1 h
    obtain ⟨rfl, rfl⟩ := Prod.mk.inj e1
    have hll := openAll.length hOL
    have HL := Lib.hid hOL
    have HF := Lib.hid hL'
    clear h hOL hL' e1 HH
    have hmk := fun u => make82 u l0.length hlen
    go_wp2
    have RL : RowL (w1.alloc (.cells ((List.replicate l0.length z82).flatMap c82).toArray 82)) w1.heap.size (List.replicate l0.length z82) := heap_alloc_new w1 _
    have hB2 := (Below.refl w1.heap.size w1).alloc (Nat.le_refl _) (.cells ((List.replicate l0.length z82).flatMap c82).toArray 82)
    generalize w1.alloc (.cells ((List.replicate l0.length z82).flatMap c82).toArray 82) = W2 at *
    go_loopw [9, 10, 22] (fun s9 s10 s22 wr => ∃ j : Nat, s22 = .int .i64 j ∧ j ≤ l0.length ∧ RowL wr w1.heap.size (OL.take j ++ List.replicate (l0.length - j) z82) ∧ Below w1.heap.size w1 wr) (fun _ _ s22 _ => l0.length - (intOf s22).toNat)
    case atStart => exact ⟨0, rfl, Nat.zero_le _, by simpa using RL, hB2⟩
    case round =>
      clear RL hB2
      obtain ⟨j, rfl, hj, RL, hB2⟩ := hrel
      by_cases hlt : j < l0.length
      · obtain ⟨ad, e0, t0, t1, t2⟩ := at_T63 (Kd.C_below (Kd.C_below HR.out HB.out) hB2) (j : Int) (by omega) (by omega)
        obtain ⟨r, hr, hrz⟩ := openAll.get HL.out j hlt
        simp only [Int.toNat_natCast] at t0 t1 t2
        subst e0
        have hi0 : (0 : Int) ≤ (j : Int) := by omega
        have hi1 : (j : Int) < (l0.length : Int) := by omega
        have hd : decide ((j : Int) < (l0.length : Int)) = true := decide_eq_true hi1
        have HJ := Lib.hid hr
        have HK := Lib.hid hrz
        clear hr hrz
        generalize rd_T63 l0 (j : Int) = x at *
        have hg1 : w1.heap.size < wr.heap.size := blk_lt RL
        have R2 := Lib.hid (show RowL (wr.alloc (.cells #[.int .i64 x.f0, .int .i64 x.f1, .bool x.f2] 63)) w1.heap.size _ from blk_alloc RL _)
        have hB3 := hB2.alloc hB2.size (.cells #[.int .i64 x.f0, .int .i64 x.f1, .bool x.f2] 63)
        clear RL
        go_wp2_with fail
        refine (partition_open.calls k x.f0 x.f1 x.f2 r.1 r.2.1 r.2.2.1 r.2.2.2.1 r.2.2.2.2.1 r.2.2.2.2.2.1 r.2.2.2.2.2.2.1 r.2.2.2.2.2.2.2.1 r.2.2.2.2.2.2.2.2 _ HJ.out).mono ?_
        rintro e w3 ⟨rfl, hb3⟩
        have R3 : RowL w3 w1.heap.size _ := blk_below R2.out hb3
        have hB4 := below_then hB3 hB3.size hb3
        have hzz : (OL.take j ++ List.replicate (l0.length - j) z82).getD j z82 = z82 := by
          have h1 : (OL.take j).length = j := by simp; omega
          rw [List.getD_eq_getElem?_getD, List.getElem?_append_right (by omega), h1]
          simp [List.getElem?_replicate]
          split <;> rfl
        have HZ := Lib.hid hzz
        clear hzz
        have z0 : w3.cell? ⟨w1.heap.size, j * 9, none⟩ = some (.int .i64 0) := (R3.cell j 0 (by simp; omega) (by omega)).trans (by rw [HZ.out]; rfl)
        have y0 : w3.frozen? ⟨w1.heap.size, j * 9, none⟩ = false := blk_frozen R3 _
        have z1 : w3.cell? ⟨w1.heap.size, j * 9 + 1, none⟩ = some (.bool false) := (R3.cell j 1 (by simp; omega) (by omega)).trans (by rw [HZ.out]; rfl)
        have y1 : w3.frozen? ⟨w1.heap.size, j * 9 + 1, none⟩ = false := blk_frozen R3 _
        have z2 : w3.cell? ⟨w1.heap.size, j * 9 + 2, none⟩ = some (.int .i64 0) := (R3.cell j 2 (by simp; omega) (by omega)).trans (by rw [HZ.out]; rfl)
        have y2 : w3.frozen? ⟨w1.heap.size, j * 9 + 2, none⟩ = false := blk_frozen R3 _
        have z3 : w3.cell? ⟨w1.heap.size, j * 9 + 3, none⟩ = some (.int .i64 0) := (R3.cell j 3 (by simp; omega) (by omega)).trans (by rw [HZ.out]; rfl)
        have y3 : w3.frozen? ⟨w1.heap.size, j * 9 + 3, none⟩ = false := blk_frozen R3 _
        have z4 : w3.cell? ⟨w1.heap.size, j * 9 + 4, none⟩ = some (.string ⟨#[]⟩) := (R3.cell j 4 (by simp; omega) (by omega)).trans (by rw [HZ.out]; rfl)
        have y4 : w3.frozen? ⟨w1.heap.size, j * 9 + 4, none⟩ = false := blk_frozen R3 _
        have z5 : w3.cell? ⟨w1.heap.size, j * 9 + 5, none⟩ = some (.int .i64 0) := (R3.cell j 5 (by simp; omega) (by omega)).trans (by rw [HZ.out]; rfl)
        have y5 : w3.frozen? ⟨w1.heap.size, j * 9 + 5, none⟩ = false := blk_frozen R3 _
        have z6 : w3.cell? ⟨w1.heap.size, j * 9 + 6, none⟩ = some (.int .i64 0) := (R3.cell j 6 (by simp; omega) (by omega)).trans (by rw [HZ.out]; rfl)
        have y6 : w3.frozen? ⟨w1.heap.size, j * 9 + 6, none⟩ = false := blk_frozen R3 _
        have z7 : w3.cell? ⟨w1.heap.size, j * 9 + 7, none⟩ = some (.string ⟨#[]⟩) := (R3.cell j 7 (by simp; omega) (by omega)).trans (by rw [HZ.out]; rfl)
        have y7 : w3.frozen? ⟨w1.heap.size, j * 9 + 7, none⟩ = false := blk_frozen R3 _
        have z8 : w3.cell? ⟨w1.heap.size, j * 9 + 8, none⟩ = some (.int .i64 0) := (R3.cell j 8 (by simp; omega) (by omega)).trans (by rw [HZ.out]; rfl)
        have y8 : w3.frozen? ⟨w1.heap.size, j * 9 + 8, none⟩ = false := blk_frozen R3 _
        go_wp2
        refine ⟨⟨j + 1, by simp, by omega, ?_, ?_⟩, by simp [intOf]; omega⟩
        · rw [← setNext z82 (s82 r) OL l0.length j hll hlt HK.out]
          exact R3.set j (by simp; omega) (s82 r)
        · repeat (refine below_set ?_ (Nat.le_refl _))
          exact hB4
      · have hjl : j = l0.length := by omega
        have hd : decide ((j : Int) < (l0.length : Int)) = false := decide_eq_false (by omega)
        have RO : RowL wr w1.heap.size OL := by
          rw [hjl, Nat.sub_self, List.replicate_zero, List.append_nil, List.take_of_length_le (by omega)] at RL
          exact RL
        have hBw := below_then HB.out HB.out.size hB2
        have C0 := blk_below D0.out hB2
        have C1 := blk_below D1.out hB2
        have hg1 : w.heap.size ≤ w1.heap.size := HB.out.size
        have l0' := blk_lt D0.out
        have l1' := blk_lt D1.out
        have HL0 := Kd.C_below HR.out hBw
        clear RL hB2 hj hjl
        clear HL
        generalize hgg : w1.heap.size = g at *
        have HGW := Lib.hid (show ∀ ad : Addr, some (⟨g, 0, none⟩ : Addr) = some ad → w.heap.size ≤ ad.block from fun ad e => by obtain rfl := Option.some.inj e; show w.heap.size ≤ g; omega)
        clear hgg
        rcases partition_Possible.kind HO.out with rfl | rfl | rfl | rfl
        · have h := HF.out
          rw [if_neg (by decide)] at h
          obtain rfl := Option.some.inj h
          clear h HF
          have k1 := C0
          have i1 := partition_kinds.at0
          have i2 := partition_kinds.fld0_3
          have k0 : wr.cell? ⟨w.heap.size, 0, none⟩ = some (.int .i64 0) := (blk_cell C0 0).trans rfl
          go_wp2
          go_region_held3 (fun w' => w'.cell? ⟨w.heap.size, 0, none⟩ = some (.int .i64 0)) (first
            | assumption
            | exact pw_cell_below hb3 (by assumption)) (first
            | (go_at_call 44
               refine (partition_kinds.tab _).mono ?_
               rintro e w3 ⟨rfl, hb3⟩))
          all_goals
            have R4 : RowL w3 g OL := blk_below (blk_drew RO) hb3
            have hB4 := below_then (below_drew1 hBw) hBw.size hb3
            go_wp2
            refine bodyPost_ret (v := .tuple #[.slice (some ⟨g, 0, none⟩) l0.length l0.length, .int .i64 0]) (by simp [results, Tryz.results50, go_sem, *]) rfl ⟨some ⟨g, 0, none⟩, l0.length, ?_, ?_, ?_, ?_, HGW.out, Or.inr ⟨g, rfl, R4⟩⟩
            · rw [hll]
            · exact R4.reads (by omega)
            · omega
            · exact hB4
        · have h := HF.out
          rw [if_pos (by decide)] at h
          obtain ⟨_, _, hb0, hb1⟩ := partition_Valid.attr (partition_Possible.valid HO.out) (by decide)
          have HH := Lib.hid h
          clear h HF
          have hbn : b.toNat < OL.length := by omega
          have hbl : b < (l0.length : Int) := hb1
          generalize hnl : (p0 == 0 && (p1 == 0 && p2.toList.isEmpty)) = nl at *
          have HN := Lib.hid hnl
          clear hnl
          have i1 := partition_kinds.at1
          have i2 := partition_kinds.fld1_3
          have k0 : wr.cell? ⟨w.heap.size, 0, none⟩ = some (.int .i64 1) := (blk_cell C0 0).trans rfl
          have keepS : ∀ w' : World, w'.heap[w.heap.size]? = some (.cells #[.int .i64 1, .int .i64 b, .int .i64 n] 27 (0, 0)) → w'.heap[w.heap.size + 1]? = some (.cells #[.int .i64 p0, .int .i64 p1, .string p2] 35 (0, 0)) → (w'.cell? ⟨w.heap.size, 0, none⟩ = some (.int .i64 1) ∧ w'.cell? ⟨w.heap.size, 1, none⟩ = some (.int .i64 b) ∧ w'.cell? ⟨w.heap.size, 2, none⟩ = some (.int .i64 n) ∧ w'.cell? ⟨w.heap.size + 1, 0, none⟩ = some (.int .i64 p0) ∧ w'.cell? ⟨w.heap.size + 1, 1, none⟩ = some (.int .i64 p1) ∧ w'.cell? ⟨w.heap.size + 1, 2, none⟩ = some (.string p2)) := fun w' b0 b1 => ⟨(blk_cell b0 0).trans rfl, (blk_cell b0 1).trans rfl, (blk_cell b0 2).trans rfl, (blk_cell b1 0).trans rfl, (blk_cell b1 1).trans rfl, (blk_cell b1 2).trans rfl⟩
          have KS := Lib.hid keepS
          clear keepS D0 D1
          go_wp2
          go_region_held3 (fun w' => w'.cell? ⟨w.heap.size, 0, none⟩ = some (.int .i64 1)) (first
            | assumption
            | exact pw_cell_below hb3 (by assumption)) (first
            | (go_at_call 44
               refine (partition_kinds.tab _).mono ?_
               rintro e w3 ⟨rfl, hb3⟩))
          have R4 : RowL w3 g OL := blk_below (blk_drew RO) hb3
          have hB4 := below_then (below_drew1 hBw) hBw.size hb3
          have C4 := blk_below (blk_drew C0) hb3
          have C5 := blk_below (blk_drew C1) hb3
          have k2 : w3.cell? ⟨w.heap.size, 1, none⟩ = some (.int .i64 b) := (blk_cell C4 1).trans rfl
          obtain ⟨x, hx⟩ : ∃ x, OL.getD b.toNat z82 = x := ⟨_, rfl⟩
          have HX := Lib.hid hx
          clear hx
          have z0 : w3.cell? ⟨g, b.toNat * 9, none⟩ = some (.int .i64 x.f0) := (R4.cell b.toNat 0 (by skip; omega) (by omega)).trans (by rw [HX.out]; rfl)
          have y0 : w3.frozen? ⟨g, b.toNat * 9, none⟩ = false := blk_frozen R4 _
          have z1 : w3.cell? ⟨g, b.toNat * 9 + 1, none⟩ = some (.bool x.f1) := (R4.cell b.toNat 1 (by skip; omega) (by omega)).trans (by rw [HX.out]; rfl)
          have y1 : w3.frozen? ⟨g, b.toNat * 9 + 1, none⟩ = false := blk_frozen R4 _
          have z2 : w3.cell? ⟨g, b.toNat * 9 + 2, none⟩ = some (.int .i64 x.f2.f0) := (R4.cell b.toNat 2 (by skip; omega) (by omega)).trans (by rw [HX.out]; rfl)
          have y2 : w3.frozen? ⟨g, b.toNat * 9 + 2, none⟩ = false := blk_frozen R4 _
          have z3 : w3.cell? ⟨g, b.toNat * 9 + 3, none⟩ = some (.int .i64 x.f2.f1) := (R4.cell b.toNat 3 (by skip; omega) (by omega)).trans (by rw [HX.out]; rfl)
          have y3 : w3.frozen? ⟨g, b.toNat * 9 + 3, none⟩ = false := blk_frozen R4 _
          have z4 : w3.cell? ⟨g, b.toNat * 9 + 4, none⟩ = some (.string x.f2.f2) := (R4.cell b.toNat 4 (by skip; omega) (by omega)).trans (by rw [HX.out]; rfl)
          have y4 : w3.frozen? ⟨g, b.toNat * 9 + 4, none⟩ = false := blk_frozen R4 _
          have z5 : w3.cell? ⟨g, b.toNat * 9 + 5, none⟩ = some (.int .i64 x.f3.f0) := (R4.cell b.toNat 5 (by skip; omega) (by omega)).trans (by rw [HX.out]; rfl)
          have y5 : w3.frozen? ⟨g, b.toNat * 9 + 5, none⟩ = false := blk_frozen R4 _
          have z6 : w3.cell? ⟨g, b.toNat * 9 + 6, none⟩ = some (.int .i64 x.f3.f1) := (R4.cell b.toNat 6 (by skip; omega) (by omega)).trans (by rw [HX.out]; rfl)
          have y6 : w3.frozen? ⟨g, b.toNat * 9 + 6, none⟩ = false := blk_frozen R4 _
          have z7 : w3.cell? ⟨g, b.toNat * 9 + 7, none⟩ = some (.string x.f3.f2) := (R4.cell b.toNat 7 (by skip; omega) (by omega)).trans (by rw [HX.out]; rfl)
          have y7 : w3.frozen? ⟨g, b.toNat * 9 + 7, none⟩ = false := blk_frozen R4 _
          have z8 : w3.cell? ⟨g, b.toNat * 9 + 8, none⟩ = some (.int .i64 x.f4) := (R4.cell b.toNat 8 (by skip; omega) (by omega)).trans (by rw [HX.out]; rfl)
          have y8 : w3.frozen? ⟨g, b.toNat * 9 + 8, none⟩ = false := blk_frozen R4 _
          have E0 := Lib.hid (RowL.far (g := g) (i := b.toNat) (x := ⟨1, false, z35, z35, 0⟩) C4 (by omega))
          have E1 := Lib.hid (RowL.far (g := g) (i := b.toNat) (x := ⟨1, false, z35, z35, 0⟩) C5 (by omega))
          have R5 := Lib.hid (R4.set b.toNat hbn ⟨1, false, z35, z35, 0⟩)
          have HB5 := Lib.hid (RowL.below (g := g) (i := b.toNat) (x := ⟨1, false, z35, z35, 0⟩) hB4 (by omega))
          replace C4 := Lib.hid C4
          replace C5 := Lib.hid C5
          clear RO hBw C0 C1 k0 i1 i2
          go_wp2
          have HX' := Lib.hid (show (OL.set b.toNat ⟨1, false, z35, z35, 0⟩).getD b.toNat z82 = ⟨1, false, z35, z35, 0⟩ by simp [List.getD_eq_getElem?_getD, hbn])
          clear z0 y0 z1 y1 z2 y2 z3 y3 z4 y4 z5 y5 z6 y6 z7 y7 z8 y8 R4 hB4 C4 C5 HX
          have HX := HX'
          clear HX'
          have W5 := Lib.hid (rfl : (((((((((w3).setCell ⟨g, b.toNat * 9, none⟩ (.int .i64 1)).setCell ⟨g, b.toNat * 9 + 1, none⟩ (.bool false)).setCell ⟨g, b.toNat * 9 + 2, none⟩ (.int .i64 0)).setCell ⟨g, b.toNat * 9 + 3, none⟩ (.int .i64 0)).setCell ⟨g, b.toNat * 9 + 4, none⟩ (.string ⟨#[]⟩)).setCell ⟨g, b.toNat * 9 + 5, none⟩ (.int .i64 0)).setCell ⟨g, b.toNat * 9 + 6, none⟩ (.int .i64 0)).setCell ⟨g, b.toNat * 9 + 7, none⟩ (.string ⟨#[]⟩)).setCell ⟨g, b.toNat * 9 + 8, none⟩ (.int .i64 0) = (((((((((w3).setCell ⟨g, b.toNat * 9, none⟩ (.int .i64 1)).setCell ⟨g, b.toNat * 9 + 1, none⟩ (.bool false)).setCell ⟨g, b.toNat * 9 + 2, none⟩ (.int .i64 0)).setCell ⟨g, b.toNat * 9 + 3, none⟩ (.int .i64 0)).setCell ⟨g, b.toNat * 9 + 4, none⟩ (.string ⟨#[]⟩)).setCell ⟨g, b.toNat * 9 + 5, none⟩ (.int .i64 0)).setCell ⟨g, b.toNat * 9 + 6, none⟩ (.int .i64 0)).setCell ⟨g, b.toNat * 9 + 7, none⟩ (.string ⟨#[]⟩)).setCell ⟨g, b.toNat * 9 + 8, none⟩ (.int .i64 0))
          replace E0 := Lib.hid (show ((((((((((w3).setCell ⟨g, b.toNat * 9, none⟩ (.int .i64 1)).setCell ⟨g, b.toNat * 9 + 1, none⟩ (.bool false)).setCell ⟨g, b.toNat * 9 + 2, none⟩ (.int .i64 0)).setCell ⟨g, b.toNat * 9 + 3, none⟩ (.int .i64 0)).setCell ⟨g, b.toNat * 9 + 4, none⟩ (.string ⟨#[]⟩)).setCell ⟨g, b.toNat * 9 + 5, none⟩ (.int .i64 0)).setCell ⟨g, b.toNat * 9 + 6, none⟩ (.int .i64 0)).setCell ⟨g, b.toNat * 9 + 7, none⟩ (.string ⟨#[]⟩)).setCell ⟨g, b.toNat * 9 + 8, none⟩ (.int .i64 0)).heap[w.heap.size]? = some (.cells #[.int .i64 1, .int .i64 b, .int .i64 n] 27 (0, 0)) from E0.out)
          replace E1 := Lib.hid (show ((((((((((w3).setCell ⟨g, b.toNat * 9, none⟩ (.int .i64 1)).setCell ⟨g, b.toNat * 9 + 1, none⟩ (.bool false)).setCell ⟨g, b.toNat * 9 + 2, none⟩ (.int .i64 0)).setCell ⟨g, b.toNat * 9 + 3, none⟩ (.int .i64 0)).setCell ⟨g, b.toNat * 9 + 4, none⟩ (.string ⟨#[]⟩)).setCell ⟨g, b.toNat * 9 + 5, none⟩ (.int .i64 0)).setCell ⟨g, b.toNat * 9 + 6, none⟩ (.int .i64 0)).setCell ⟨g, b.toNat * 9 + 7, none⟩ (.string ⟨#[]⟩)).setCell ⟨g, b.toNat * 9 + 8, none⟩ (.int .i64 0)).heap[w.heap.size + 1]? = some (.cells #[.int .i64 p0, .int .i64 p1, .string p2] 35 (0, 0)) from E1.out)
          replace R5 := Lib.hid (show RowL ((((((((((w3).setCell ⟨g, b.toNat * 9, none⟩ (.int .i64 1)).setCell ⟨g, b.toNat * 9 + 1, none⟩ (.bool false)).setCell ⟨g, b.toNat * 9 + 2, none⟩ (.int .i64 0)).setCell ⟨g, b.toNat * 9 + 3, none⟩ (.int .i64 0)).setCell ⟨g, b.toNat * 9 + 4, none⟩ (.string ⟨#[]⟩)).setCell ⟨g, b.toNat * 9 + 5, none⟩ (.int .i64 0)).setCell ⟨g, b.toNat * 9 + 6, none⟩ (.int .i64 0)).setCell ⟨g, b.toNat * 9 + 7, none⟩ (.string ⟨#[]⟩)).setCell ⟨g, b.toNat * 9 + 8, none⟩ (.int .i64 0)) g (OL.set b.toNat ⟨1, false, z35, z35, 0⟩) from R5.out)
          replace HB5 := Lib.hid (show Below w.heap.size w ((((((((((w3).setCell ⟨g, b.toNat * 9, none⟩ (.int .i64 1)).setCell ⟨g, b.toNat * 9 + 1, none⟩ (.bool false)).setCell ⟨g, b.toNat * 9 + 2, none⟩ (.int .i64 0)).setCell ⟨g, b.toNat * 9 + 3, none⟩ (.int .i64 0)).setCell ⟨g, b.toNat * 9 + 4, none⟩ (.string ⟨#[]⟩)).setCell ⟨g, b.toNat * 9 + 5, none⟩ (.int .i64 0)).setCell ⟨g, b.toNat * 9 + 6, none⟩ (.int .i64 0)).setCell ⟨g, b.toNat * 9 + 7, none⟩ (.string ⟨#[]⟩)).setCell ⟨g, b.toNat * 9 + 8, none⟩ (.int .i64 0)) from HB5.out)
          generalize (((((((((w3).setCell ⟨g, b.toNat * 9, none⟩ (.int .i64 1)).setCell ⟨g, b.toNat * 9 + 1, none⟩ (.bool false)).setCell ⟨g, b.toNat * 9 + 2, none⟩ (.int .i64 0)).setCell ⟨g, b.toNat * 9 + 3, none⟩ (.int .i64 0)).setCell ⟨g, b.toNat * 9 + 4, none⟩ (.string ⟨#[]⟩)).setCell ⟨g, b.toNat * 9 + 5, none⟩ (.int .i64 0)).setCell ⟨g, b.toNat * 9 + 6, none⟩ (.int .i64 0)).setCell ⟨g, b.toNat * 9 + 7, none⟩ (.string ⟨#[]⟩)).setCell ⟨g, b.toNat * 9 + 8, none⟩ (.int .i64 0) = V at *
          clear W5 k2
          have F0 := Lib.hid (blk_drew E0.out)
          have F1 := Lib.hid (blk_drew E1.out)
          go_region_held3 (fun w' => w'.cell? ⟨w.heap.size, 0, none⟩ = some (.int .i64 1) ∧ w'.cell? ⟨w.heap.size, 1, none⟩ = some (.int .i64 b) ∧ w'.cell? ⟨w.heap.size, 2, none⟩ = some (.int .i64 n) ∧ w'.cell? ⟨w.heap.size + 1, 0, none⟩ = some (.int .i64 p0) ∧ w'.cell? ⟨w.heap.size + 1, 1, none⟩ = some (.int .i64 p1) ∧ w'.cell? ⟨w.heap.size + 1, 2, none⟩ = some (.string p2)) (first
            | (with_reducible exact KS.out _ E0.out E1.out)
            | (with_reducible exact KS.out _ F0.out F1.out)
            | (with_reducible exact KS.out _ G0.out G1.out)) (first
            | (go_at_call 47
               refine (partition_null.calls 0 0 ⟨#[]⟩ _ rfl).mono ?_
               rintro e w5 ⟨rfl, hb5⟩
               have G0 := Lib.hid (blk_below F0.out hb5)
               have G1 := Lib.hid (blk_below F1.out hb5)))
          have R6 := Lib.hid (show RowL w5 g _ from blk_below (blk_drew R5.out) hb5)
          have HB6 := Lib.hid (below_then (below_drew1 HB5.out) HB5.out.size hb5)
          have HN2 : (!(p0 == 0) || (!(p1 == 0) || !p2.toList.isEmpty)) = !nl := by
            rw [← HN.out, Bool.not_and, Bool.not_and]
          rw [HN2]
          clear HN2 E0 E1 F0 F1 R5 HB5 hb5 HN
          have h := HH.out
          clear HH
          cases nl with
          | true =>
            rw [if_pos rfl] at h
            obtain rfl := Option.some.inj h
            clear h
            go_wp2
            refine bodyPost_ret (v := .tuple #[.slice (some ⟨g, 0, none⟩) l0.length l0.length, .int .i64 0]) (by simp [results, Tryz.results50, go_sem, *]) rfl ⟨some ⟨g, 0, none⟩, l0.length, ?_, ?_, ?_, ?_, HGW.out, Or.inr ⟨g, rfl, R6.out⟩⟩
            · rfl
            · have := R6.out.reads (by simp; omega)
              rwa [List.length_set, hll] at this
            · exact Nat.le_refl _
            · exact HB6.out
          | false =>
            rw [if_neg (by decide)] at h
            obtain ⟨q, hq, rfl⟩ := Option.map_eq_some_iff.1 h
            have HQ := Lib.hid (show partition_spec_same.f 1 b n p0 p1 p2 = some (q.1, q.2.1, q.2.2) from hq)
            clear h hq
            have H0 := Lib.hid (blk_drew G0.out)
            have H1 := Lib.hid (blk_drew G1.out)
            have R7 := Lib.hid (show RowL w5.drew g _ from blk_drew R6.out)
            go_wp2
            go_region_held3 (fun w' => w'.cell? ⟨w.heap.size, 0, none⟩ = some (.int .i64 1) ∧ w'.cell? ⟨w.heap.size, 1, none⟩ = some (.int .i64 b) ∧ w'.cell? ⟨w.heap.size, 2, none⟩ = some (.int .i64 n) ∧ w'.cell? ⟨w.heap.size + 1, 0, none⟩ = some (.int .i64 p0) ∧ w'.cell? ⟨w.heap.size + 1, 1, none⟩ = some (.int .i64 p1) ∧ w'.cell? ⟨w.heap.size + 1, 2, none⟩ = some (.string p2)) (first
              | (with_reducible exact KS.out _ G0.out G1.out)
              | (with_reducible exact KS.out _ H0.out H1.out)
              | (with_reducible exact KS.out _ J0.out J1.out)
              | (exact KS.out _ (RowL.far (x := ⟨0, true, ⟨p0, p1, p2⟩, ⟨q.1, q.2.1, q.2.2⟩, 0⟩) J0.out (by omega)) (RowL.far (x := ⟨0, true, ⟨p0, p1, p2⟩, ⟨q.1, q.2.1, q.2.2⟩, 0⟩) J1.out (by omega)))) (first
              | (go_at_call 76
                 refine (partition_spec_same.calls 1 b n p0 p1 p2 q.1 q.2.1 q.2.2 _ HQ.out).mono ?_
                 rintro e w6 ⟨rfl, hb6⟩
                 have J0 := Lib.hid (blk_below H0.out hb6)
                 have J1 := Lib.hid (blk_below H1.out hb6)
                 have R8 : RowL w6 g _ := blk_below R7.out hb6
                 have z0 : w6.cell? ⟨g, b.toNat * 9, none⟩ = some (.int .i64 1) := (R8.cell b.toNat 0 (by simp; omega) (by omega)).trans (by rw [HX.out]; rfl)
                 have y0 : w6.frozen? ⟨g, b.toNat * 9, none⟩ = false := blk_frozen R8 _
                 have z1 : w6.cell? ⟨g, b.toNat * 9 + 1, none⟩ = some (.bool false) := (R8.cell b.toNat 1 (by simp; omega) (by omega)).trans (by rw [HX.out]; rfl)
                 have y1 : w6.frozen? ⟨g, b.toNat * 9 + 1, none⟩ = false := blk_frozen R8 _
                 have z2 : w6.cell? ⟨g, b.toNat * 9 + 2, none⟩ = some (.int .i64 0) := (R8.cell b.toNat 2 (by simp; omega) (by omega)).trans (by rw [HX.out]; rfl)
                 have y2 : w6.frozen? ⟨g, b.toNat * 9 + 2, none⟩ = false := blk_frozen R8 _
                 have z3 : w6.cell? ⟨g, b.toNat * 9 + 3, none⟩ = some (.int .i64 0) := (R8.cell b.toNat 3 (by simp; omega) (by omega)).trans (by rw [HX.out]; rfl)
                 have y3 : w6.frozen? ⟨g, b.toNat * 9 + 3, none⟩ = false := blk_frozen R8 _
                 have z4 : w6.cell? ⟨g, b.toNat * 9 + 4, none⟩ = some (.string ⟨#[]⟩) := (R8.cell b.toNat 4 (by simp; omega) (by omega)).trans (by rw [HX.out]; rfl)
                 have y4 : w6.frozen? ⟨g, b.toNat * 9 + 4, none⟩ = false := blk_frozen R8 _
                 have z5 : w6.cell? ⟨g, b.toNat * 9 + 5, none⟩ = some (.int .i64 0) := (R8.cell b.toNat 5 (by simp; omega) (by omega)).trans (by rw [HX.out]; rfl)
                 have y5 : w6.frozen? ⟨g, b.toNat * 9 + 5, none⟩ = false := blk_frozen R8 _
                 have z6 : w6.cell? ⟨g, b.toNat * 9 + 6, none⟩ = some (.int .i64 0) := (R8.cell b.toNat 6 (by simp; omega) (by omega)).trans (by rw [HX.out]; rfl)
                 have y6 : w6.frozen? ⟨g, b.toNat * 9 + 6, none⟩ = false := blk_frozen R8 _
                 have z7 : w6.cell? ⟨g, b.toNat * 9 + 7, none⟩ = some (.string ⟨#[]⟩) := (R8.cell b.toNat 7 (by simp; omega) (by omega)).trans (by rw [HX.out]; rfl)
                 have y7 : w6.frozen? ⟨g, b.toNat * 9 + 7, none⟩ = false := blk_frozen R8 _
                 have z8 : w6.cell? ⟨g, b.toNat * 9 + 8, none⟩ = some (.int .i64 0) := (R8.cell b.toNat 8 (by simp; omega) (by omega)).trans (by rw [HX.out]; rfl)
                 have y8 : w6.frozen? ⟨g, b.toNat * 9 + 8, none⟩ = false := blk_frozen R8 _))
            all_goals
              have HB7 := below_then (below_drew1 HB6.out) HB6.out.size hb6
              have R9 := Lib.hid (R8.set b.toNat (by simp; omega) ⟨0, true, ⟨p0, p1, p2⟩, ⟨q.1, q.2.1, q.2.2⟩, 0⟩)
              have HB9 := Lib.hid (RowL.below (g := g) (i := b.toNat) (x := ⟨0, true, ⟨p0, p1, p2⟩, ⟨q.1, q.2.1, q.2.2⟩, 0⟩) HB7 (by omega))
              go_wp2
              refine bodyPost_ret (v := .tuple #[.slice (some ⟨g, 0, none⟩) l0.length l0.length, .int .i64 0]) (by simp [results, Tryz.results50, go_sem, *]) rfl ⟨some ⟨g, 0, none⟩, l0.length, ?_, ?_, ?_, ?_, HGW.out, Or.inr ⟨g, rfl, (by have := R9.out; rw [List.set_set] at this; exact this)⟩⟩
              · rfl
              · have := R9.out
                rw [List.set_set] at this
                have h2 := this.reads (by simp; omega)
                rwa [List.length_set, hll] at h2
              · exact Nat.le_refl _
              · exact HB9.out
        · have h := HF.out
          rw [if_neg (by decide)] at h
          obtain rfl := Option.some.inj h
          clear h HF
          have k1 := C0
          have i1 := partition_kinds.at2
          have i2 := partition_kinds.fld2_3
          have k0 : wr.cell? ⟨w.heap.size, 0, none⟩ = some (.int .i64 2) := (blk_cell C0 0).trans rfl
          go_wp2
          go_region_held3 (fun w' => w'.cell? ⟨w.heap.size, 0, none⟩ = some (.int .i64 2)) (first
            | assumption
            | exact pw_cell_below hb3 (by assumption)) (first
            | (go_at_call 44
               refine (partition_kinds.tab _).mono ?_
               rintro e w3 ⟨rfl, hb3⟩))
          all_goals
            have R4 : RowL w3 g OL := blk_below (blk_drew RO) hb3
            have hB4 := below_then (below_drew1 hBw) hBw.size hb3
            go_wp2
            refine bodyPost_ret (v := .tuple #[.slice (some ⟨g, 0, none⟩) l0.length l0.length, .int .i64 0]) (by simp [results, Tryz.results50, go_sem, *]) rfl ⟨some ⟨g, 0, none⟩, l0.length, ?_, ?_, ?_, ?_, HGW.out, Or.inr ⟨g, rfl, R4⟩⟩
            · rw [hll]
            · exact R4.reads (by omega)
            · omega
            · exact hB4
        · have h := HF.out
          rw [if_pos (by decide)] at h
          obtain ⟨_, _, hb0, hb1⟩ := partition_Valid.attr (partition_Possible.valid HO.out) (by decide)
          have HH := Lib.hid h
          clear h HF
          have hbn : b.toNat < OL.length := by omega
          have hbl : b < (l0.length : Int) := hb1
          generalize hnl : (p0 == 0 && (p1 == 0 && p2.toList.isEmpty)) = nl at *
          have HN := Lib.hid hnl
          clear hnl
          have i1 := partition_kinds.at3
          have i2 := partition_kinds.fld3_3
          have k0 : wr.cell? ⟨w.heap.size, 0, none⟩ = some (.int .i64 3) := (blk_cell C0 0).trans rfl
          have keepS : ∀ w' : World, w'.heap[w.heap.size]? = some (.cells #[.int .i64 3, .int .i64 b, .int .i64 n] 27 (0, 0)) → w'.heap[w.heap.size + 1]? = some (.cells #[.int .i64 p0, .int .i64 p1, .string p2] 35 (0, 0)) → (w'.cell? ⟨w.heap.size, 0, none⟩ = some (.int .i64 3) ∧ w'.cell? ⟨w.heap.size, 1, none⟩ = some (.int .i64 b) ∧ w'.cell? ⟨w.heap.size, 2, none⟩ = some (.int .i64 n) ∧ w'.cell? ⟨w.heap.size + 1, 0, none⟩ = some (.int .i64 p0) ∧ w'.cell? ⟨w.heap.size + 1, 1, none⟩ = some (.int .i64 p1) ∧ w'.cell? ⟨w.heap.size + 1, 2, none⟩ = some (.string p2)) := fun w' b0 b1 => ⟨(blk_cell b0 0).trans rfl, (blk_cell b0 1).trans rfl, (blk_cell b0 2).trans rfl, (blk_cell b1 0).trans rfl, (blk_cell b1 1).trans rfl, (blk_cell b1 2).trans rfl⟩
          have KS := Lib.hid keepS
          clear keepS D0 D1
          go_wp2
          go_region_held3 (fun w' => w'.cell? ⟨w.heap.size, 0, none⟩ = some (.int .i64 3)) (first
            | assumption
            | exact pw_cell_below hb3 (by assumption)) (first
            | (go_at_call 44
               refine (partition_kinds.tab _).mono ?_
               rintro e w3 ⟨rfl, hb3⟩))
          have R4 : RowL w3 g OL := blk_below (blk_drew RO) hb3
          have hB4 := below_then (below_drew1 hBw) hBw.size hb3
          have C4 := blk_below (blk_drew C0) hb3
          have C5 := blk_below (blk_drew C1) hb3
          have k2 : w3.cell? ⟨w.heap.size, 1, none⟩ = some (.int .i64 b) := (blk_cell C4 1).trans rfl
          obtain ⟨x, hx⟩ : ∃ x, OL.getD b.toNat z82 = x := ⟨_, rfl⟩
          have HX := Lib.hid hx
          clear hx
          have z0 : w3.cell? ⟨g, b.toNat * 9, none⟩ = some (.int .i64 x.f0) := (R4.cell b.toNat 0 (by skip; omega) (by omega)).trans (by rw [HX.out]; rfl)
          have y0 : w3.frozen? ⟨g, b.toNat * 9, none⟩ = false := blk_frozen R4 _
          have z1 : w3.cell? ⟨g, b.toNat * 9 + 1, none⟩ = some (.bool x.f1) := (R4.cell b.toNat 1 (by skip; omega) (by omega)).trans (by rw [HX.out]; rfl)
          have y1 : w3.frozen? ⟨g, b.toNat * 9 + 1, none⟩ = false := blk_frozen R4 _
          have z2 : w3.cell? ⟨g, b.toNat * 9 + 2, none⟩ = some (.int .i64 x.f2.f0) := (R4.cell b.toNat 2 (by skip; omega) (by omega)).trans (by rw [HX.out]; rfl)
          have y2 : w3.frozen? ⟨g, b.toNat * 9 + 2, none⟩ = false := blk_frozen R4 _
          have z3 : w3.cell? ⟨g, b.toNat * 9 + 3, none⟩ = some (.int .i64 x.f2.f1) := (R4.cell b.toNat 3 (by skip; omega) (by omega)).trans (by rw [HX.out]; rfl)
          have y3 : w3.frozen? ⟨g, b.toNat * 9 + 3, none⟩ = false := blk_frozen R4 _
          have z4 : w3.cell? ⟨g, b.toNat * 9 + 4, none⟩ = some (.string x.f2.f2) := (R4.cell b.toNat 4 (by skip; omega) (by omega)).trans (by rw [HX.out]; rfl)
          have y4 : w3.frozen? ⟨g, b.toNat * 9 + 4, none⟩ = false := blk_frozen R4 _
          have z5 : w3.cell? ⟨g, b.toNat * 9 + 5, none⟩ = some (.int .i64 x.f3.f0) := (R4.cell b.toNat 5 (by skip; omega) (by omega)).trans (by rw [HX.out]; rfl)
          have y5 : w3.frozen? ⟨g, b.toNat * 9 + 5, none⟩ = false := blk_frozen R4 _
          have z6 : w3.cell? ⟨g, b.toNat * 9 + 6, none⟩ = some (.int .i64 x.f3.f1) := (R4.cell b.toNat 6 (by skip; omega) (by omega)).trans (by rw [HX.out]; rfl)
          have y6 : w3.frozen? ⟨g, b.toNat * 9 + 6, none⟩ = false := blk_frozen R4 _
          have z7 : w3.cell? ⟨g, b.toNat * 9 + 7, none⟩ = some (.string x.f3.f2) := (R4.cell b.toNat 7 (by skip; omega) (by omega)).trans (by rw [HX.out]; rfl)
          have y7 : w3.frozen? ⟨g, b.toNat * 9 + 7, none⟩ = false := blk_frozen R4 _
          have z8 : w3.cell? ⟨g, b.toNat * 9 + 8, none⟩ = some (.int .i64 x.f4) := (R4.cell b.toNat 8 (by skip; omega) (by omega)).trans (by rw [HX.out]; rfl)
          have y8 : w3.frozen? ⟨g, b.toNat * 9 + 8, none⟩ = false := blk_frozen R4 _
          have E0 := Lib.hid (RowL.far (g := g) (i := b.toNat) (x := ⟨1, false, z35, z35, 0⟩) C4 (by omega))
          have E1 := Lib.hid (RowL.far (g := g) (i := b.toNat) (x := ⟨1, false, z35, z35, 0⟩) C5 (by omega))
          have R5 := Lib.hid (R4.set b.toNat hbn ⟨1, false, z35, z35, 0⟩)
          have HB5 := Lib.hid (RowL.below (g := g) (i := b.toNat) (x := ⟨1, false, z35, z35, 0⟩) hB4 (by omega))
          replace C4 := Lib.hid C4
          replace C5 := Lib.hid C5
          clear RO hBw C0 C1 k0 i1 i2
          go_wp2
          have HX' := Lib.hid (show (OL.set b.toNat ⟨1, false, z35, z35, 0⟩).getD b.toNat z82 = ⟨1, false, z35, z35, 0⟩ by simp [List.getD_eq_getElem?_getD, hbn])
          clear z0 y0 z1 y1 z2 y2 z3 y3 z4 y4 z5 y5 z6 y6 z7 y7 z8 y8 R4 hB4 C4 C5 HX
          have HX := HX'
          clear HX'
          have W5 := Lib.hid (rfl : (((((((((w3).setCell ⟨g, b.toNat * 9, none⟩ (.int .i64 1)).setCell ⟨g, b.toNat * 9 + 1, none⟩ (.bool false)).setCell ⟨g, b.toNat * 9 + 2, none⟩ (.int .i64 0)).setCell ⟨g, b.toNat * 9 + 3, none⟩ (.int .i64 0)).setCell ⟨g, b.toNat * 9 + 4, none⟩ (.string ⟨#[]⟩)).setCell ⟨g, b.toNat * 9 + 5, none⟩ (.int .i64 0)).setCell ⟨g, b.toNat * 9 + 6, none⟩ (.int .i64 0)).setCell ⟨g, b.toNat * 9 + 7, none⟩ (.string ⟨#[]⟩)).setCell ⟨g, b.toNat * 9 + 8, none⟩ (.int .i64 0) = (((((((((w3).setCell ⟨g, b.toNat * 9, none⟩ (.int .i64 1)).setCell ⟨g, b.toNat * 9 + 1, none⟩ (.bool false)).setCell ⟨g, b.toNat * 9 + 2, none⟩ (.int .i64 0)).setCell ⟨g, b.toNat * 9 + 3, none⟩ (.int .i64 0)).setCell ⟨g, b.toNat * 9 + 4, none⟩ (.string ⟨#[]⟩)).setCell ⟨g, b.toNat * 9 + 5, none⟩ (.int .i64 0)).setCell ⟨g, b.toNat * 9 + 6, none⟩ (.int .i64 0)).setCell ⟨g, b.toNat * 9 + 7, none⟩ (.string ⟨#[]⟩)).setCell ⟨g, b.toNat * 9 + 8, none⟩ (.int .i64 0))
          replace E0 := Lib.hid (show ((((((((((w3).setCell ⟨g, b.toNat * 9, none⟩ (.int .i64 1)).setCell ⟨g, b.toNat * 9 + 1, none⟩ (.bool false)).setCell ⟨g, b.toNat * 9 + 2, none⟩ (.int .i64 0)).setCell ⟨g, b.toNat * 9 + 3, none⟩ (.int .i64 0)).setCell ⟨g, b.toNat * 9 + 4, none⟩ (.string ⟨#[]⟩)).setCell ⟨g, b.toNat * 9 + 5, none⟩ (.int .i64 0)).setCell ⟨g, b.toNat * 9 + 6, none⟩ (.int .i64 0)).setCell ⟨g, b.toNat * 9 + 7, none⟩ (.string ⟨#[]⟩)).setCell ⟨g, b.toNat * 9 + 8, none⟩ (.int .i64 0)).heap[w.heap.size]? = some (.cells #[.int .i64 3, .int .i64 b, .int .i64 n] 27 (0, 0)) from E0.out)
          replace E1 := Lib.hid (show ((((((((((w3).setCell ⟨g, b.toNat * 9, none⟩ (.int .i64 1)).setCell ⟨g, b.toNat * 9 + 1, none⟩ (.bool false)).setCell ⟨g, b.toNat * 9 + 2, none⟩ (.int .i64 0)).setCell ⟨g, b.toNat * 9 + 3, none⟩ (.int .i64 0)).setCell ⟨g, b.toNat * 9 + 4, none⟩ (.string ⟨#[]⟩)).setCell ⟨g, b.toNat * 9 + 5, none⟩ (.int .i64 0)).setCell ⟨g, b.toNat * 9 + 6, none⟩ (.int .i64 0)).setCell ⟨g, b.toNat * 9 + 7, none⟩ (.string ⟨#[]⟩)).setCell ⟨g, b.toNat * 9 + 8, none⟩ (.int .i64 0)).heap[w.heap.size + 1]? = some (.cells #[.int .i64 p0, .int .i64 p1, .string p2] 35 (0, 0)) from E1.out)
          replace R5 := Lib.hid (show RowL ((((((((((w3).setCell ⟨g, b.toNat * 9, none⟩ (.int .i64 1)).setCell ⟨g, b.toNat * 9 + 1, none⟩ (.bool false)).setCell ⟨g, b.toNat * 9 + 2, none⟩ (.int .i64 0)).setCell ⟨g, b.toNat * 9 + 3, none⟩ (.int .i64 0)).setCell ⟨g, b.toNat * 9 + 4, none⟩ (.string ⟨#[]⟩)).setCell ⟨g, b.toNat * 9 + 5, none⟩ (.int .i64 0)).setCell ⟨g, b.toNat * 9 + 6, none⟩ (.int .i64 0)).setCell ⟨g, b.toNat * 9 + 7, none⟩ (.string ⟨#[]⟩)).setCell ⟨g, b.toNat * 9 + 8, none⟩ (.int .i64 0)) g (OL.set b.toNat ⟨1, false, z35, z35, 0⟩) from R5.out)
          replace HB5 := Lib.hid (show Below w.heap.size w ((((((((((w3).setCell ⟨g, b.toNat * 9, none⟩ (.int .i64 1)).setCell ⟨g, b.toNat * 9 + 1, none⟩ (.bool false)).setCell ⟨g, b.toNat * 9 + 2, none⟩ (.int .i64 0)).setCell ⟨g, b.toNat * 9 + 3, none⟩ (.int .i64 0)).setCell ⟨g, b.toNat * 9 + 4, none⟩ (.string ⟨#[]⟩)).setCell ⟨g, b.toNat * 9 + 5, none⟩ (.int .i64 0)).setCell ⟨g, b.toNat * 9 + 6, none⟩ (.int .i64 0)).setCell ⟨g, b.toNat * 9 + 7, none⟩ (.string ⟨#[]⟩)).setCell ⟨g, b.toNat * 9 + 8, none⟩ (.int .i64 0)) from HB5.out)
          generalize (((((((((w3).setCell ⟨g, b.toNat * 9, none⟩ (.int .i64 1)).setCell ⟨g, b.toNat * 9 + 1, none⟩ (.bool false)).setCell ⟨g, b.toNat * 9 + 2, none⟩ (.int .i64 0)).setCell ⟨g, b.toNat * 9 + 3, none⟩ (.int .i64 0)).setCell ⟨g, b.toNat * 9 + 4, none⟩ (.string ⟨#[]⟩)).setCell ⟨g, b.toNat * 9 + 5, none⟩ (.int .i64 0)).setCell ⟨g, b.toNat * 9 + 6, none⟩ (.int .i64 0)).setCell ⟨g, b.toNat * 9 + 7, none⟩ (.string ⟨#[]⟩)).setCell ⟨g, b.toNat * 9 + 8, none⟩ (.int .i64 0) = V at *
          clear W5 k2
          have F0 := Lib.hid (blk_drew E0.out)
          have F1 := Lib.hid (blk_drew E1.out)
          go_region_held3 (fun w' => w'.cell? ⟨w.heap.size, 0, none⟩ = some (.int .i64 3) ∧ w'.cell? ⟨w.heap.size, 1, none⟩ = some (.int .i64 b) ∧ w'.cell? ⟨w.heap.size, 2, none⟩ = some (.int .i64 n) ∧ w'.cell? ⟨w.heap.size + 1, 0, none⟩ = some (.int .i64 p0) ∧ w'.cell? ⟨w.heap.size + 1, 1, none⟩ = some (.int .i64 p1) ∧ w'.cell? ⟨w.heap.size + 1, 2, none⟩ = some (.string p2)) (first
            | (with_reducible exact KS.out _ E0.out E1.out)
            | (with_reducible exact KS.out _ F0.out F1.out)
            | (with_reducible exact KS.out _ G0.out G1.out)) (first
            | (go_at_call 47
               refine (partition_null.calls 0 0 ⟨#[]⟩ _ rfl).mono ?_
               rintro e w5 ⟨rfl, hb5⟩
               have G0 := Lib.hid (blk_below F0.out hb5)
               have G1 := Lib.hid (blk_below F1.out hb5)))
          have R6 := Lib.hid (show RowL w5 g _ from blk_below (blk_drew R5.out) hb5)
          have HB6 := Lib.hid (below_then (below_drew1 HB5.out) HB5.out.size hb5)
          have HN2 : (!(p0 == 0) || (!(p1 == 0) || !p2.toList.isEmpty)) = !nl := by
            rw [← HN.out, Bool.not_and, Bool.not_and]
          rw [HN2]
          clear HN2 E0 E1 F0 F1 R5 HB5 hb5 HN
          have h := HH.out
          clear HH
          cases nl with
          | true =>
            rw [if_pos rfl] at h
            obtain rfl := Option.some.inj h
            clear h
            go_wp2
            refine bodyPost_ret (v := .tuple #[.slice (some ⟨g, 0, none⟩) l0.length l0.length, .int .i64 0]) (by simp [results, Tryz.results50, go_sem, *]) rfl ⟨some ⟨g, 0, none⟩, l0.length, ?_, ?_, ?_, ?_, HGW.out, Or.inr ⟨g, rfl, R6.out⟩⟩
            · rfl
            · have := R6.out.reads (by simp; omega)
              rwa [List.length_set, hll] at this
            · exact Nat.le_refl _
            · exact HB6.out
          | false =>
            rw [if_neg (by decide)] at h
            obtain ⟨q, hq, rfl⟩ := Option.map_eq_some_iff.1 h
            have HQ := Lib.hid (show partition_spec_most.f 3 b n p0 p1 p2 = some (q.1, q.2.1, q.2.2) from hq)
            clear h hq
            have H0 := Lib.hid (blk_drew G0.out)
            have H1 := Lib.hid (blk_drew G1.out)
            have R7 := Lib.hid (show RowL w5.drew g _ from blk_drew R6.out)
            go_wp2
            go_region_held3 (fun w' => w'.cell? ⟨w.heap.size, 0, none⟩ = some (.int .i64 3) ∧ w'.cell? ⟨w.heap.size, 1, none⟩ = some (.int .i64 b) ∧ w'.cell? ⟨w.heap.size, 2, none⟩ = some (.int .i64 n) ∧ w'.cell? ⟨w.heap.size + 1, 0, none⟩ = some (.int .i64 p0) ∧ w'.cell? ⟨w.heap.size + 1, 1, none⟩ = some (.int .i64 p1) ∧ w'.cell? ⟨w.heap.size + 1, 2, none⟩ = some (.string p2)) (first
              | (with_reducible exact KS.out _ G0.out G1.out)
              | (with_reducible exact KS.out _ H0.out H1.out)
              | (with_reducible exact KS.out _ J0.out J1.out)
              | (exact KS.out _ (RowL.far (x := ⟨0, true, ⟨p0, p1, p2⟩, ⟨q.1, q.2.1, q.2.2⟩, 0⟩) J0.out (by omega)) (RowL.far (x := ⟨0, true, ⟨p0, p1, p2⟩, ⟨q.1, q.2.1, q.2.2⟩, 0⟩) J1.out (by omega)))) (first
              | (go_at_call 84
                 refine (partition_spec_most.calls 3 b n p0 p1 p2 q.1 q.2.1 q.2.2 _ HQ.out).mono ?_
                 rintro e w6 ⟨rfl, hb6⟩
                 have J0 := Lib.hid (blk_below H0.out hb6)
                 have J1 := Lib.hid (blk_below H1.out hb6)
                 have R8 : RowL w6 g _ := blk_below R7.out hb6
                 have z0 : w6.cell? ⟨g, b.toNat * 9, none⟩ = some (.int .i64 1) := (R8.cell b.toNat 0 (by simp; omega) (by omega)).trans (by rw [HX.out]; rfl)
                 have y0 : w6.frozen? ⟨g, b.toNat * 9, none⟩ = false := blk_frozen R8 _
                 have z1 : w6.cell? ⟨g, b.toNat * 9 + 1, none⟩ = some (.bool false) := (R8.cell b.toNat 1 (by simp; omega) (by omega)).trans (by rw [HX.out]; rfl)
                 have y1 : w6.frozen? ⟨g, b.toNat * 9 + 1, none⟩ = false := blk_frozen R8 _
                 have z2 : w6.cell? ⟨g, b.toNat * 9 + 2, none⟩ = some (.int .i64 0) := (R8.cell b.toNat 2 (by simp; omega) (by omega)).trans (by rw [HX.out]; rfl)
                 have y2 : w6.frozen? ⟨g, b.toNat * 9 + 2, none⟩ = false := blk_frozen R8 _
                 have z3 : w6.cell? ⟨g, b.toNat * 9 + 3, none⟩ = some (.int .i64 0) := (R8.cell b.toNat 3 (by simp; omega) (by omega)).trans (by rw [HX.out]; rfl)
                 have y3 : w6.frozen? ⟨g, b.toNat * 9 + 3, none⟩ = false := blk_frozen R8 _
                 have z4 : w6.cell? ⟨g, b.toNat * 9 + 4, none⟩ = some (.string ⟨#[]⟩) := (R8.cell b.toNat 4 (by simp; omega) (by omega)).trans (by rw [HX.out]; rfl)
                 have y4 : w6.frozen? ⟨g, b.toNat * 9 + 4, none⟩ = false := blk_frozen R8 _
                 have z5 : w6.cell? ⟨g, b.toNat * 9 + 5, none⟩ = some (.int .i64 0) := (R8.cell b.toNat 5 (by simp; omega) (by omega)).trans (by rw [HX.out]; rfl)
                 have y5 : w6.frozen? ⟨g, b.toNat * 9 + 5, none⟩ = false := blk_frozen R8 _
                 have z6 : w6.cell? ⟨g, b.toNat * 9 + 6, none⟩ = some (.int .i64 0) := (R8.cell b.toNat 6 (by simp; omega) (by omega)).trans (by rw [HX.out]; rfl)
                 have y6 : w6.frozen? ⟨g, b.toNat * 9 + 6, none⟩ = false := blk_frozen R8 _
                 have z7 : w6.cell? ⟨g, b.toNat * 9 + 7, none⟩ = some (.string ⟨#[]⟩) := (R8.cell b.toNat 7 (by simp; omega) (by omega)).trans (by rw [HX.out]; rfl)
                 have y7 : w6.frozen? ⟨g, b.toNat * 9 + 7, none⟩ = false := blk_frozen R8 _
                 have z8 : w6.cell? ⟨g, b.toNat * 9 + 8, none⟩ = some (.int .i64 0) := (R8.cell b.toNat 8 (by simp; omega) (by omega)).trans (by rw [HX.out]; rfl)
                 have y8 : w6.frozen? ⟨g, b.toNat * 9 + 8, none⟩ = false := blk_frozen R8 _))
            all_goals
              have HB7 := below_then (below_drew1 HB6.out) HB6.out.size hb6
              have R9 := Lib.hid (R8.set b.toNat (by simp; omega) ⟨0, true, ⟨p0, p1, p2⟩, ⟨q.1, q.2.1, q.2.2⟩, 0⟩)
              have HB9 := Lib.hid (RowL.below (g := g) (i := b.toNat) (x := ⟨0, true, ⟨p0, p1, p2⟩, ⟨q.1, q.2.1, q.2.2⟩, 0⟩) HB7 (by omega))
              go_wp2
              refine bodyPost_ret (v := .tuple #[.slice (some ⟨g, 0, none⟩) l0.length l0.length, .int .i64 0]) (by simp [results, Tryz.results50, go_sem, *]) rfl ⟨some ⟨g, 0, none⟩, l0.length, ?_, ?_, ?_, ?_, HGW.out, Or.inr ⟨g, rfl, (by have := R9.out; rw [List.set_set] at this; exact this)⟩⟩
              · rfl
              · have := R9.out
                rw [List.set_set] at this
                have h2 := this.reads (by simp; omega)
                rwa [List.length_set, hll] at h2
              · exact Nat.le_refl _
              · exact HB9.out
end Go.Proofs.YteflfnjljjianaaGreatDoor.Qx
namespace Go.Proofs.YteflfnjljjianaaGreatDoor.Qx
open Go.RowKit Go.Proofs.YteflfnjljjianaaGreatDoorW.PrintWords Go.Proofs.YteflfnjljjianaaGreatDoorW.PrintLast Go.Proofs.YteflfnjljjianaaGreatDoorW.PrintMore
attribute [local go_sem] max2_int min2_int max_two min_two
set_option linter.unusedVariables false
set_option linter.unusedSimpArgs false
def expr_Conjuncts.f : Nat → Int → Int → Int → Int → ByteArray → List (S38) → Option ((List (S38)))
  | 0, _, _, _, _, _, _ => none
  | k + 1, a0_0, a0_1, a0_2, a0_3, a0_4, l0_5 => if a0_0 = 6 then (if 0 < (l0_5.length : Int) then ((expr_Conjuncts.f k ((rd_T38 l0_5 0).f0) ((rd_T38 l0_5 0).f1) ((rd_T38 l0_5 0).f2.f0) ((rd_T38 l0_5 0).f2.f1) ((rd_T38 l0_5 0).f2.f2) ((rd_T38 l0_5 0).f3)).bind fun t103 => (if 1 < (l0_5.length : Int) then ((expr_Conjuncts.f k ((rd_T38 l0_5 1).f0) ((rd_T38 l0_5 1).f1) ((rd_T38 l0_5 1).f2.f0) ((rd_T38 l0_5 1).f2.f1) ((rd_T38 l0_5 1).f2.f2) ((rd_T38 l0_5 1).f3)).bind fun t107 => (if t103.length + t107.length < 1954687338268 then (some (t103 ++ t107)) else (none))) else (none))) else (none)) else (some (([(⟨a0_0, a0_1, (⟨a0_2, a0_3, a0_4⟩ : S35), l0_5⟩ : S38)] : List (S38))))
def expr_Conjuncts.T3 : Bool × List (List Nat × List Nat) := (true, [([], []), ([0], [0]), ([1], [1]), ([2], [2]), ([3], [3]), ([], []), ([5], [5]), ([6], [6]), ([7], [7]), ([8, 4], [8]), ([4, 9, 9], [4, 9]), ([10, 10, 0, 1, 2, 3, 4, 5, 6, 7, 8, 9, 10], [10])])
def expr_Conjuncts.B3 : List Nat := [0, 1, 3, 7, 15, 0, 32, 96, 224, 511, 1023, 2047]
theorem expr_Conjuncts.tab3 : rtab .any (opsOf Tryz.f99 3) = expr_Conjuncts.T3 := by kernel_rfl
theorem expr_Conjuncts.bits3 : waitsOk expr_Conjuncts.T3.2 expr_Conjuncts.B3 = true := by kernel_rfl
set_option maxHeartbeats 8000000 in
set_option maxRecDepth 100000 in
theorem expr_Conjuncts.calls (k : Nat) : ∀ (a0_0 : Int) (a0_1 : Int) (a0_2 : Int) (a0_3 : Int) (a0_4 : ByteArray) (P0_5_ : Nat → Prop) (A0_5 : Option Addr) (c0_5 : Nat) (l0_5 : List (S38)) (r : List (S38)) (w : World) (hs0_5 : Kd.V k38 38 w w.heap.size (fun k_ => P0_5_ k_) (.slice A0_5 l0_5.length c0_5) l0_5) (h : expr_Conjuncts.f k a0_0 a0_1 a0_2 a0_3 a0_4 l0_5 = some r),
    Calls Tryz.prog 99 #[.agg #[.int .i64 a0_0, .int .i64 a0_1, .int .i64 a0_2, .int .i64 a0_3, .string a0_4, .slice A0_5 l0_5.length c0_5]] w fun e w' => ∃ v0_ : Value, e = .returned (v0_) ∧ Kd.N k38 38 w' w.heap.size (fun k_ => (P0_5_ k_ ∨ w.heap.size ≤ k_)) v0_ r ∧ Below w.heap.size w w' := by
  induction k using Nat.strongRecOn with
  | _ k ih =>
  intro a0_0 a0_1 a0_2 a0_3 a0_4 P0_5_ A0_5 c0_5 l0_5 r w hs0_5 h
  cases k with
  | zero => exact absurd h (by simp [expr_Conjuncts.f])
  | succ k =>
  simp only [expr_Conjuncts.f] at h
  have hu38 := Tryz.underlying38
  have HO0_5 := Aside0.mk (show Kd.V k38 38 w w.heap.size (fun k_ => (P0_5_ k_ ∨ w.heap.size ≤ k_)) (.slice A0_5 l0_5.length c0_5) l0_5 from Kd.V_mono hs0_5 (fun k_ hk => .inl hk))
  have HB := Aside0.mk (Below.refl w.heap.size w)
  have H : (if a0_0 = 6 then (if 0 < (l0_5.length : Int) then ((expr_Conjuncts.f k ((rd_T38 l0_5 0).f0) ((rd_T38 l0_5 0).f1) ((rd_T38 l0_5 0).f2.f0) ((rd_T38 l0_5 0).f2.f1) ((rd_T38 l0_5 0).f2.f2) ((rd_T38 l0_5 0).f3)).bind fun t103 => (if 1 < (l0_5.length : Int) then ((expr_Conjuncts.f k ((rd_T38 l0_5 1).f0) ((rd_T38 l0_5 1).f1) ((rd_T38 l0_5 1).f2.f0) ((rd_T38 l0_5 1).f2.f1) ((rd_T38 l0_5 1).f2.f2) ((rd_T38 l0_5 1).f3)).bind fun t107 => (if t103.length + t107.length < 1954687338268 then (some (t103 ++ t107)) else (none))) else (none))) else (none)) else (some (([(⟨a0_0, a0_1, (⟨a0_2, a0_3, a0_4⟩ : S35), l0_5⟩ : S38)] : List (S38))))) = some r := h
  clear h
  by_cases c2 : a0_0 = 6
  · rw [if_pos c2] at H
    have c2b0 : (a0_0 == 6) = true := beq_iff_eq.mpr c2
    have c2b1 : (a0_0 != 6) = false := bne_eq_false_iff_eq.mpr c2
    clear c2
    by_cases c3 : 0 < (l0_5.length : Int)
    · rw [if_pos c3] at H
      have c3b0 : decide (0 < (l0_5.length : Int)) = true := decide_eq_true c3
      have c3b1 : decide (0 < l0_5.length) = true := decide_eq_true (by omega)
      clear c3
      replace H := Option.bind_eq_some_iff.mp H
      obtain ⟨t103, A40, H⟩ := H
      replace H : (if 1 < (l0_5.length : Int) then ((expr_Conjuncts.f k ((rd_T38 l0_5 1).f0) ((rd_T38 l0_5 1).f1) ((rd_T38 l0_5 1).f2.f0) ((rd_T38 l0_5 1).f2.f1) ((rd_T38 l0_5 1).f2.f2) ((rd_T38 l0_5 1).f3)).bind fun t107 => (if t103.length + t107.length < 1954687338268 then (some (t103 ++ t107)) else (none))) else (none)) = some r := H
      have A4 := Aside0.mk A40
      clear A40
      by_cases c5 : 1 < (l0_5.length : Int)
      · rw [if_pos c5] at H
        have c5b0 : decide (1 < (l0_5.length : Int)) = true := decide_eq_true c5
        have c5b1 : decide (1 < l0_5.length) = true := decide_eq_true (by omega)
        clear c5
        replace H := Option.bind_eq_some_iff.mp H
        obtain ⟨t107, A60, H⟩ := H
        replace H : (if t103.length + t107.length < 1954687338268 then (some (t103 ++ t107)) else (none)) = some r := H
        have A6 := Aside0.mk A60
        clear A60
        by_cases c7 : t103.length + t107.length < 1954687338268
        · rw [if_pos c7] at H
          have LMc7 := Aside0.mk c7
          clear c7
          obtain ⟨y110, hy110⟩ : ∃ y_ : List (S38), y_ = (t103 ++ t107) := ⟨_, rfl⟩
          replace H : (some y110) = some r := by first | (rw [hy110]; with_reducible exact H) | (have H2_ := (Option.bind_some _ _).symm.trans H; rw [hy110]; with_reducible exact H2_) | (have H2_ := (Option.bind_some _ _).symm.trans H; with_reducible exact H2_) | with_reducible exact H | (rw [hy110]; exact H) | exact H
          have Ny110 := Aside0.mk hy110
          clear hy110
          obtain rfl := Option.some.inj H
          go_enter Tryz.func99, Tryz.ntmps99
          try go_wp2_with (first | ((with_reducible refine gate_dst (N := 1) rfl ?_); refine box_event ?hg (N := 1) ?hd (cs := #[.int .i64 a0_0, .int .i64 a0_1, .int .i64 a0_2, .int .i64 a0_3, .string a0_4, .slice A0_5 l0_5.length c0_5]) (t := 38) ?hr ?_; (case hd => rfl); (case hg => rfl); (case hr => first | (go_simp; done) | (go_simp; rfl)); intro gb101 hg w8 hbox hb; have n0_ := Aside0.mk (Kd.V_below (Kd.V_elderB (by (with_reducible repeat (first | apply Kd.V_alloc | apply Kd.V_drewN | apply Kd.V_drew)); exact HO0_5.out) gb101 (Nat.le_of_eq hg.symm)) hb); have n1_ := Aside0.mk (below_step (by repeat (first | (with_reducible first | exact HB.out | apply below_alloc | apply pw_below_drewN | apply below_drew1) | exact HB.out)) hb); have n2_ := Aside0.mk (hbox); have n3_ := Aside0.mk ((by rw [hg]; exact (below_size (by repeat (first | (with_reducible first | exact HB.out | apply below_alloc | apply pw_below_drewN | apply below_drew1) | exact HB.out))) : w.heap.size ≤ gb101)); have n4_ := Aside0.mk ((by rw [hg]; exact (below_size (by repeat (first | (with_reducible first | exact HB.out | apply below_alloc | apply pw_below_drewN | apply below_drew1) | exact HB.out))) : w.heap.size ≤ gb101)); clear HO0_5; clear HB; have HO0_5 := n0_; have HB := n1_; have BK101 := n2_; have GW101 := n3_; have GE101 := n4_; clear n0_ n1_ n2_ n3_ n4_; clear hb hbox hg; have hcz9_0 : w8.cell? ⟨gb101, 0, none⟩ = some (.int .i64 a0_0) := (blk_cell BK101.out 0).trans rfl; have hcz9_1 : w8.cell? ⟨gb101, 1, none⟩ = some (.int .i64 a0_1) := (blk_cell BK101.out 1).trans rfl; have hcz9_2 : w8.cell? ⟨gb101, 2, none⟩ = some (.int .i64 a0_2) := (blk_cell BK101.out 2).trans rfl; have hcz9_3 : w8.cell? ⟨gb101, 3, none⟩ = some (.int .i64 a0_3) := (blk_cell BK101.out 3).trans rfl; have hcz9_4 : w8.cell? ⟨gb101, 4, none⟩ = some (.string a0_4) := (blk_cell BK101.out 4).trans rfl; have hcz9_5 : w8.cell? ⟨gb101, 5, none⟩ = some (.slice A0_5 l0_5.length c0_5) := (blk_cell BK101.out 5).trans rfl; have hfz9_0 := blk_frozen BK101.out 0; have hfz9_1 := blk_frozen BK101.out 1; have hfz9_2 := blk_frozen BK101.out 2; have hfz9_3 := blk_frozen BK101.out 3; have hfz9_4 := blk_frozen BK101.out 4; have hfz9_5 := blk_frozen BK101.out 5))
          have n0_ := Aside0.mk (Kd.V_drew HO0_5.out)
          have n1_ := Aside0.mk (blk_drew BK101.out)
          have n2_ := Aside0.mk (below_drew1 HB.out)
          clear HO0_5
          clear BK101
          clear HB
          have HO0_5 := n0_
          have BK101 := n1_
          have HB := n2_
          clear n0_ n1_ n2_
          have p102 : 0 ≤ (0 : Int) := (by omega)
          have q102 : 0 < (l0_5.length : Int) := of_decide_eq_true (by first | (with_reducible assumption) | assumption)
          obtain ⟨ad102, A102_5, c102_5, e102, hx102_0, hx102_1, hx102_2, hx102_3, hx102_4, hx102_5, hl102_5, hi102_5⟩ := at_T38 (Kd.V_reads' HO0_5.out).2.2 0 p102 q102
          cases e102
          obtain ⟨ce102, hce102, hMe102, hcc102⟩ := Kd.V_get HO0_5.out z38 0 p102 (by first | exact q102 | exact of_decide_eq_true (by first | (with_reducible assumption) | assumption) | (have e_ := (Kd.V_reads' HO0_5.out).1; omega))
          obtain ⟨ua102_5, uc102_5, rfl, ul102_5, ge102_5⟩ := k38_openF hMe102
          have hv102_5 := hcc102 5 _ rfl
          rw [add_field _ _ 5 (by omega)] at hv102_5
          replace hv102_5 := Option.some.inj (hv102_5.symm.trans hx102_5)
          injection hv102_5 with hva_ hvn_ hvc_
          rw [hva_] at ge102_5
          rw [hvc_] at ul102_5
          have HL102_5 := Aside0.mk (show Kd.V k38 38 _ w.heap.size _ _ ((rd_T38 l0_5 0).f3) from Kd.V_mk ul102_5 ge102_5)
          clear hva_ hvn_ hvc_ ge102_5 ul102_5
          clear hcc102 hce102
          have qi102 : (0 < l0_5.length) = True := eq_true (by omega)
          (try rw [show ((0 : Int)).toNat = 0 from rfl] at hx102_0)
          (try rw [show 0 * 6 = 0 from rfl] at hx102_0)
          (try rw [Addr.add_zero'] at hx102_0)
          (try rw [show ((0 : Int)).toNat = 0 from rfl] at hx102_1)
          (try rw [show 0 * 6 = 0 from rfl] at hx102_1)
          (try rw [Addr.add_zero'] at hx102_1)
          (try rw [show ((0 : Int)).toNat = 0 from rfl] at hx102_2)
          (try rw [show 0 * 6 = 0 from rfl] at hx102_2)
          (try rw [Addr.add_zero'] at hx102_2)
          (try rw [show ((0 : Int)).toNat = 0 from rfl] at hx102_3)
          (try rw [show 0 * 6 = 0 from rfl] at hx102_3)
          (try rw [Addr.add_zero'] at hx102_3)
          (try rw [show ((0 : Int)).toNat = 0 from rfl] at hx102_4)
          (try rw [show 0 * 6 = 0 from rfl] at hx102_4)
          (try rw [Addr.add_zero'] at hx102_4)
          (try rw [show ((0 : Int)).toNat = 0 from rfl] at hx102_5)
          (try rw [show 0 * 6 = 0 from rfl] at hx102_5)
          (try rw [Addr.add_zero'] at hx102_5)
          have HR102_5 := Aside0.mk hi102_5
          have HC102_5 := Aside0.mk hl102_5
          clear hi102_5 hl102_5
          replace p102 := eq_true p102
          replace q102 := eq_true q102
          have p106 : 0 ≤ (1 : Int) := (by omega)
          have q106 : 1 < (l0_5.length : Int) := of_decide_eq_true (by first | (with_reducible assumption) | assumption)
          obtain ⟨ad106, A106_5, c106_5, e106, hx106_0, hx106_1, hx106_2, hx106_3, hx106_4, hx106_5, hl106_5, hi106_5⟩ := at_T38 (Kd.V_reads' HO0_5.out).2.2 1 p106 q106
          obtain rfl : ad102 = ad106 := (by injection e106)
          obtain ⟨ce106, hce106, hMe106, hcc106⟩ := Kd.V_get HO0_5.out z38 1 p106 (by first | exact q106 | exact of_decide_eq_true (by first | (with_reducible assumption) | assumption) | (have e_ := (Kd.V_reads' HO0_5.out).1; omega))
          obtain ⟨ua106_5, uc106_5, rfl, ul106_5, ge106_5⟩ := k38_openF hMe106
          have hv106_5 := hcc106 5 _ rfl
          rw [add_field _ _ 5 (by omega)] at hv106_5
          replace hv106_5 := Option.some.inj (hv106_5.symm.trans hx106_5)
          injection hv106_5 with hva_ hvn_ hvc_
          rw [hva_] at ge106_5
          rw [hvc_] at ul106_5
          have HL106_5 := Aside0.mk (show Kd.V k38 38 _ w.heap.size _ _ ((rd_T38 l0_5 1).f3) from Kd.V_mk ul106_5 ge106_5)
          clear hva_ hvn_ hvc_ ge106_5 ul106_5
          clear hcc106 hce106
          (try simp only [show (1 : Int).toNat = 1 from rfl, Nat.reduceMul, Nat.reduceEqDiff, Go.Addr.add, ↓reduceIte] at hx106_0)
          (try simp only [show (1 : Int).toNat = 1 from rfl, Nat.reduceMul, Nat.reduceEqDiff, Go.Addr.add, ↓reduceIte] at hx106_1)
          (try simp only [show (1 : Int).toNat = 1 from rfl, Nat.reduceMul, Nat.reduceEqDiff, Go.Addr.add, ↓reduceIte] at hx106_2)
          (try simp only [show (1 : Int).toNat = 1 from rfl, Nat.reduceMul, Nat.reduceEqDiff, Go.Addr.add, ↓reduceIte] at hx106_3)
          (try simp only [show (1 : Int).toNat = 1 from rfl, Nat.reduceMul, Nat.reduceEqDiff, Go.Addr.add, ↓reduceIte] at hx106_4)
          (try simp only [show (1 : Int).toNat = 1 from rfl, Nat.reduceMul, Nat.reduceEqDiff, Go.Addr.add, ↓reduceIte] at hx106_5)
          have qi106 : (1 < l0_5.length) = True := eq_true (by omega)
          (try rw [show ((1 : Int)).toNat = 1 from rfl] at hx106_0)
          (try rw [show 1 * 6 = 6 from rfl] at hx106_0)
          (try rw [show ((1 : Int)).toNat = 1 from rfl] at hx106_1)
          (try rw [show 1 * 6 = 6 from rfl] at hx106_1)
          (try rw [show ((1 : Int)).toNat = 1 from rfl] at hx106_2)
          (try rw [show 1 * 6 = 6 from rfl] at hx106_2)
          (try rw [show ((1 : Int)).toNat = 1 from rfl] at hx106_3)
          (try rw [show 1 * 6 = 6 from rfl] at hx106_3)
          (try rw [show ((1 : Int)).toNat = 1 from rfl] at hx106_4)
          (try rw [show 1 * 6 = 6 from rfl] at hx106_4)
          (try rw [show ((1 : Int)).toNat = 1 from rfl] at hx106_5)
          (try rw [show 1 * 6 = 6 from rfl] at hx106_5)
          have HR106_5 := Aside0.mk hi106_5
          have HC106_5 := Aside0.mk hl106_5
          clear hi106_5 hl106_5
          replace p106 := eq_true p106
          replace q106 := eq_true q106
          refine start_ (n := 12) (S := fun w' => w'.cell? ⟨gb101, 0, none⟩ = some (.int .i64 a0_0) ∧ w'.cell? ⟨gb101, 1, none⟩ = some (.int .i64 a0_1) ∧ w'.cell? ⟨gb101, 2, none⟩ = some (.int .i64 a0_2) ∧ w'.cell? ⟨gb101, 3, none⟩ = some (.int .i64 a0_3) ∧ w'.cell? ⟨gb101, 4, none⟩ = some (.string a0_4) ∧ w'.cell? ⟨gb101, 5, none⟩ = some (.slice (some ad102) l0_5.length c0_5) ∧ w'.cell? ad102 = some (.int .i64 ((rd_T38 l0_5 0).f0)) ∧ w'.cell? ⟨ad102.block, ad102.off + 1, none⟩ = some (.int .i64 ((rd_T38 l0_5 0).f1)) ∧ w'.cell? ⟨ad102.block, ad102.off + 2, none⟩ = some (.int .i64 ((rd_T38 l0_5 0).f2.f0)) ∧ w'.cell? ⟨ad102.block, ad102.off + 3, none⟩ = some (.int .i64 ((rd_T38 l0_5 0).f2.f1)) ∧ w'.cell? ⟨ad102.block, ad102.off + 4, none⟩ = some (.string ((rd_T38 l0_5 0).f2.f2)) ∧ w'.cell? ⟨ad102.block, ad102.off + 5, none⟩ = some (.slice A102_5 ((rd_T38 l0_5 0).f3).length c102_5) ∧ w'.cell? ⟨ad102.block, ad102.off + 6, none⟩ = some (.int .i64 ((rd_T38 l0_5 1).f0)) ∧ w'.cell? ⟨ad102.block, ad102.off + 6 + 1, none⟩ = some (.int .i64 ((rd_T38 l0_5 1).f1)) ∧ w'.cell? ⟨ad102.block, ad102.off + 6 + 2, none⟩ = some (.int .i64 ((rd_T38 l0_5 1).f2.f0)) ∧ w'.cell? ⟨ad102.block, ad102.off + 6 + 3, none⟩ = some (.int .i64 ((rd_T38 l0_5 1).f2.f1)) ∧ w'.cell? ⟨ad102.block, ad102.off + 6 + 4, none⟩ = some (.string ((rd_T38 l0_5 1).f2.f2)) ∧ w'.cell? ⟨ad102.block, ad102.off + 6 + 5, none⟩ = some (.slice A106_5 ((rd_T38 l0_5 1).f3).length c106_5)) (ds := [10]) #[false, false, false, false, false, false, false, false, false, false, false, false] (by kernel_rfl) rfl rfl ⟨(blk_cell BK101.out 0).trans rfl, (blk_cell BK101.out 1).trans rfl, (blk_cell BK101.out 2).trans rfl, (blk_cell BK101.out 3).trans rfl, (blk_cell BK101.out 4).trans rfl, (blk_cell BK101.out 5).trans rfl, hx102_0, hx102_1, hx102_2, hx102_3, hx102_4, hx102_5, hx106_0, hx106_1, hx106_2, hx106_3, hx106_4, hx106_5⟩ (fun hHeld => ?_); refine with_tabW expr_Conjuncts.tab3 expr_Conjuncts.bits3 (fun HT_ HW_ => ?_)
          generalize w8.drew = w10 at HO0_5 BK101 HB HL102_5 HL106_5 HR102_5 HR106_5 hx102_0 hx102_1 hx102_2 hx102_3 hx102_4 hx102_5 hx106_0 hx106_1 hx106_2 hx106_3 hx106_4 hx106_5 hHeld ⊢
          refine pure_ (i := 0) (N := some 8) (v := ?_) (a' := ?_) #[true, false, false, false, false, false, false, false, false, false, false, false] rfl rfl (any_of HT_.out (by kernel_rfl)) (fun _ _ _ h => h) (Or.inl ⟨by rfl, ?_⟩) ?_ ?_
          rotate_left
          · intro w'
            go_simp
            with_reducible rfl
          rotate_left
          · simp only [Act.put, List.setIfInBounds_toArray, List.set_cons_zero, List.set_cons_succ, i64_w, i32_w]
            rfl
          refine pure_ (i := 5) (N := some 13) (v := ?_) (a' := ?_) #[true, false, false, false, false, true, false, false, false, false, false, false] rfl rfl (any_of HT_.out (by kernel_rfl)) (fun _ _ _ h => h) (Or.inl ⟨by rfl, ?_⟩) ?_ ?_
          rotate_left
          · intro w'
            go_simp
            with_reducible rfl
          rotate_left
          · simp only [Act.put, List.setIfInBounds_toArray, List.set_cons_zero, List.set_cons_succ, i64_w, i32_w]
            rfl
          refine take_ (i := 1) (N := some 9) (v := ?_) (a' := ?_) #[true, true, false, false, false, true, false, false, false, false, false, false] rfl rfl (take_ofW HT_.out HW_.out (by kernel_rfl)) (fun _ _ _ h => h) (Or.inl ⟨by rfl, ?_⟩) hHeld ?_ ?_
          rotate_left
          · rintro w' ⟨s0, s1, s2, s3, s4, s5, s6, s7, s8, s9, s10, s11, s12, s13, s14, s15, s16, s17⟩
            go_simp
            with_reducible rfl
          rotate_left
          · simp only [Act.put, List.setIfInBounds_toArray, List.set_cons_zero, List.set_cons_succ, i64_w, i32_w]
            rfl
          refine pure_ (i := 2) (N := some 10) (v := ?_) (a' := ?_) #[true, true, true, false, false, true, false, false, false, false, false, false] rfl rfl (any_of HT_.out (by kernel_rfl)) (fun _ _ _ h => h) (Or.inl ⟨by rfl, ?_⟩) ?_ ?_
          rotate_left
          · intro w'
            go_simp
            with_reducible rfl
          rotate_left
          · simp only [Act.put, List.setIfInBounds_toArray, List.set_cons_zero, List.set_cons_succ, i64_w, i32_w]
            rfl
          refine take_ (i := 3) (N := some 11) (v := ?_) (a' := ?_) #[true, true, true, true, false, true, false, false, false, false, false, false] rfl rfl (take_ofW HT_.out HW_.out (by kernel_rfl)) (fun _ _ _ h => h) (Or.inl ⟨by rfl, ?_⟩) hHeld ?_ ?_
          rotate_left
          · rintro w' ⟨s0, s1, s2, s3, s4, s5, s6, s7, s8, s9, s10, s11, s12, s13, s14, s15, s16, s17⟩
            go_simp
            with_reducible rfl
          rotate_left
          · simp only [Act.put, List.setIfInBounds_toArray, List.set_cons_zero, List.set_cons_succ, i64_w, i32_w]
            rfl
          refine take_ (i := 6) (N := some 14) (v := ?_) (a' := ?_) #[true, true, true, true, false, true, true, false, false, false, false, false] rfl rfl (take_ofW HT_.out HW_.out (by kernel_rfl)) (fun _ _ _ h => h) (Or.inl ⟨by rfl, ?_⟩) hHeld ?_ ?_
          rotate_left
          · rintro w' ⟨s0, s1, s2, s3, s4, s5, s6, s7, s8, s9, s10, s11, s12, s13, s14, s15, s16, s17⟩
            go_simp
            with_reducible rfl
          rotate_left
          · simp only [Act.put, List.setIfInBounds_toArray, List.set_cons_zero, List.set_cons_succ, i64_w, i32_w]
            rfl
          refine pure_ (i := 7) (N := some 15) (v := ?_) (a' := ?_) #[true, true, true, true, false, true, true, true, false, false, false, false] rfl rfl (any_of HT_.out (by kernel_rfl)) (fun _ _ _ h => h) (Or.inl ⟨by rfl, ?_⟩) ?_ ?_
          rotate_left
          · intro w'
            go_simp
            with_reducible rfl
          rotate_left
          · simp only [Act.put, List.setIfInBounds_toArray, List.set_cons_zero, List.set_cons_succ, i64_w, i32_w]
            rfl
          refine take_ (i := 8) (N := some 16) (v := ?_) (a' := ?_) #[true, true, true, true, false, true, true, true, true, false, false, false] rfl rfl (take_ofW HT_.out HW_.out (by kernel_rfl)) (fun _ _ _ h => h) (Or.inl ⟨by rfl, ?_⟩) hHeld ?_ ?_
          rotate_left
          · rintro w' ⟨s0, s1, s2, s3, s4, s5, s6, s7, s8, s9, s10, s11, s12, s13, s14, s15, s16, s17⟩
            go_simp
            with_reducible rfl
          rotate_left
          · simp only [Act.put, List.setIfInBounds_toArray, List.set_cons_zero, List.set_cons_succ, i64_w, i32_w]
            rfl
          refine one_ (i := 4) (N := some 12) #[true, true, true, true, true, true, true, true, true, false, false, false] rfl rfl (one_of HT_.out (by kernel_rfl)) (by decide) (fun K hK => ?_)
          refine goes_ Tryz.func99 (by kernel_rfl) rfl #[.agg #[.int .i64 ((rd_T38 l0_5 0).f0), .int .i64 ((rd_T38 l0_5 0).f1), .int .i64 ((rd_T38 l0_5 0).f2.f0), .int .i64 ((rd_T38 l0_5 0).f2.f1), .string ((rd_T38 l0_5 0).f2.f2), .slice A102_5 ((rd_T38 l0_5 0).f3).length c102_5]] (by rfl) rfl rfl (by (try simp only [List.map_toArray, List.map_cons, List.map_nil]); first | done | rfl | (simp only [List.length_drop, List.length_take]; rfl)) ?_
          with_reducible refine (ih k (by omega) ((rd_T38 l0_5 0).f0) ((rd_T38 l0_5 0).f1) ((rd_T38 l0_5 0).f2.f0) ((rd_T38 l0_5 0).f2.f1) ((rd_T38 l0_5 0).f2.f2) (fun k_ => ((P0_5_ k_ ∨ w.heap.size ≤ k_) ∧ k_ ≠ gb101)) _ _ ((rd_T38 l0_5 0).f3) t103 _ ?side1 A4.out).mono ?_
          (case side1 => exact HL102_5.out)
          rintro e w11 ⟨v104, rfl, ho0, hb⟩
          have HS6_ := (hb.cell (World.block_lt_of_cell? _ _ (hHeld.2.2.2.2.2.2.1))).trans (hHeld.2.2.2.2.2.2.1)
          have HS7_ := (hb.cell (World.block_lt_of_cell? _ _ (hHeld.2.2.2.2.2.2.2.1))).trans (hHeld.2.2.2.2.2.2.2.1)
          have HS8_ := (hb.cell (World.block_lt_of_cell? _ _ (hHeld.2.2.2.2.2.2.2.2.1))).trans (hHeld.2.2.2.2.2.2.2.2.1)
          have HS9_ := (hb.cell (World.block_lt_of_cell? _ _ (hHeld.2.2.2.2.2.2.2.2.2.1))).trans (hHeld.2.2.2.2.2.2.2.2.2.1)
          have HS10_ := (hb.cell (World.block_lt_of_cell? _ _ (hHeld.2.2.2.2.2.2.2.2.2.2.1))).trans (hHeld.2.2.2.2.2.2.2.2.2.2.1)
          have HS11_ := (hb.cell (World.block_lt_of_cell? _ _ (hHeld.2.2.2.2.2.2.2.2.2.2.2.1))).trans (hHeld.2.2.2.2.2.2.2.2.2.2.2.1)
          have HS12_ := (hb.cell (World.block_lt_of_cell? _ _ (hHeld.2.2.2.2.2.2.2.2.2.2.2.2.1))).trans (hHeld.2.2.2.2.2.2.2.2.2.2.2.2.1)
          have HS13_ := (hb.cell (World.block_lt_of_cell? _ _ (hHeld.2.2.2.2.2.2.2.2.2.2.2.2.2.1))).trans (hHeld.2.2.2.2.2.2.2.2.2.2.2.2.2.1)
          have HS14_ := (hb.cell (World.block_lt_of_cell? _ _ (hHeld.2.2.2.2.2.2.2.2.2.2.2.2.2.2.1))).trans (hHeld.2.2.2.2.2.2.2.2.2.2.2.2.2.2.1)
          have HS15_ := (hb.cell (World.block_lt_of_cell? _ _ (hHeld.2.2.2.2.2.2.2.2.2.2.2.2.2.2.2.1))).trans (hHeld.2.2.2.2.2.2.2.2.2.2.2.2.2.2.2.1)
          have HS16_ := (hb.cell (World.block_lt_of_cell? _ _ (hHeld.2.2.2.2.2.2.2.2.2.2.2.2.2.2.2.2.1))).trans (hHeld.2.2.2.2.2.2.2.2.2.2.2.2.2.2.2.2.1)
          have HS17_ := (hb.cell (World.block_lt_of_cell? _ _ (hHeld.2.2.2.2.2.2.2.2.2.2.2.2.2.2.2.2.2))).trans (hHeld.2.2.2.2.2.2.2.2.2.2.2.2.2.2.2.2.2)
          refine ⟨_, rfl, ?_⟩
          have n0_ := Aside0.mk (Kd.V_elder' (by (with_reducible repeat (first | apply Kd.V_alloc | apply Kd.V_drewN | apply Kd.V_drew)); exact HO0_5.out) (Kd.N_base ho0) hb)
          have n1_ := Aside0.mk (Kd.V_elder' (by (with_reducible repeat (first | apply Kd.V_alloc | apply Kd.V_drewN | apply Kd.V_drew)); exact HL102_5.out) (Kd.N_base ho0) hb)
          have n2_ := Aside0.mk (Kd.V_elder' (by (with_reducible repeat (first | apply Kd.V_alloc | apply Kd.V_drewN | apply Kd.V_drew)); exact HL106_5.out) (Kd.N_base ho0) hb)
          have n3_ := Aside0.mk (Kd.N_lower (Kd.N_mono (ok' := fun k_ => (P0_5_ k_ ∨ w.heap.size ≤ k_) ∧ k_ ≠ gb101) ho0 (fun k_ hk_ => ⟨Or.elim hk_ (fun hs_ => hs_.1) (fun hn_ => (.inr (Nat.le_trans (below_size (by repeat (first | (with_reducible first | exact HB.out | apply below_alloc | apply pw_below_drewN | apply below_drew1 | refine below_set ?_ GE101.out) | exact HB.out))) hn_))), Or.elim hk_ (fun hs_ => hs_.2) (fun hn_ => (Kd.freshB (g := gb101) (o := .cells #[.int .i64 a0_0, .int .i64 a0_1, .int .i64 a0_2, .int .i64 a0_3, .string a0_4, .slice (some ad102) l0_5.length c0_5] 38 (0, 0)) (by (with_reducible repeat (first | refine blk_drewN ?_ _ | refine blk_drew ?_ | refine blk_alloc ?_ _)); exact BK101.out) k_ hn_))⟩)) (below_size (by repeat (first | (with_reducible first | exact HB.out | apply below_alloc | apply pw_below_drewN | apply below_drew1 | refine below_set ?_ GE101.out) | exact HB.out))))
          have n4_ := Aside0.mk (blk_below (g := gb101) (o := .cells #[.int .i64 a0_0, .int .i64 a0_1, .int .i64 a0_2, .int .i64 a0_3, .string a0_4, .slice (some ad102) l0_5.length c0_5] 38 (0, 0)) (by (with_reducible repeat (first | refine blk_drewN ?_ _ | refine blk_drew ?_ | refine blk_alloc ?_ _)); exact BK101.out) hb)
          have n5_ := Aside0.mk (Kd.C_below (by repeat (first | (with_reducible exact HR102_5.out) | (with_reducible refine Kd.C_alloc ?_ _) | (with_reducible refine Kd.C_drewN ?_ _) | (with_reducible refine Kd.C_drew ?_) | exact HR102_5.out)) hb)
          have n6_ := Aside0.mk (Kd.C_below (by repeat (first | (with_reducible exact HR106_5.out) | (with_reducible refine Kd.C_alloc ?_ _) | (with_reducible refine Kd.C_drewN ?_ _) | (with_reducible refine Kd.C_drew ?_) | exact HR106_5.out)) hb)
          have n7_ := Aside0.mk (below_step (by repeat (first | (with_reducible first | exact HB.out | apply below_alloc | apply pw_below_drewN | apply below_drew1 | refine below_set ?_ GE101.out) | exact HB.out)) hb)
          clear HO0_5
          clear HL102_5
          clear HL106_5
          clear BK101
          clear HR102_5
          clear HR106_5
          clear HB
          have HO0_5 := n0_
          have HL102_5 := n1_
          have HL106_5 := n2_
          have HO105 := n3_
          have BK101 := n4_
          have HR102_5 := n5_
          have HR106_5 := n6_
          have HB := n7_
          clear n0_ n1_ n2_ n3_ n4_ n5_ n6_ n7_
          (try clear hb)
          (try clear hb2)
          (try clear hk)
          (try clear hi)
          (try clear ho0)
          refine hK.out _ _ ⟨(blk_cell BK101.out 0).trans rfl, (blk_cell BK101.out 1).trans rfl, (blk_cell BK101.out 2).trans rfl, (blk_cell BK101.out 3).trans rfl, (blk_cell BK101.out 4).trans rfl, (blk_cell BK101.out 5).trans rfl, HS6_, HS7_, HS8_, HS9_, HS10_, HS11_, HS12_, HS13_, HS14_, HS15_, HS16_, HS17_⟩ (fun hHeld => ?_)
          clear hK K
          refine norm_ (a' := ?_) ?_ ?_
          rotate_left
          · show Act.put _ (some 12) _ = _
            simp only [Act.put, List.setIfInBounds_toArray, List.set_cons_zero, List.set_cons_succ, i64_w, i32_w]
            rfl
          refine one_ (i := 9) (N := some 17) #[true, true, true, true, true, true, true, true, true, true, false, false] rfl rfl (one_of HT_.out (by kernel_rfl)) (by decide) (fun K hK => ?_)
          refine goes_ Tryz.func99 (by kernel_rfl) rfl #[.agg #[.int .i64 ((rd_T38 l0_5 1).f0), .int .i64 ((rd_T38 l0_5 1).f1), .int .i64 ((rd_T38 l0_5 1).f2.f0), .int .i64 ((rd_T38 l0_5 1).f2.f1), .string ((rd_T38 l0_5 1).f2.f2), .slice A106_5 ((rd_T38 l0_5 1).f3).length c106_5]] (by rfl) rfl rfl (by (try simp only [List.map_toArray, List.map_cons, List.map_nil]); first | done | rfl | (simp only [List.length_drop, List.length_take]; rfl)) ?_
          with_reducible refine (ih k (by omega) ((rd_T38 l0_5 1).f0) ((rd_T38 l0_5 1).f1) ((rd_T38 l0_5 1).f2.f0) ((rd_T38 l0_5 1).f2.f1) ((rd_T38 l0_5 1).f2.f2) (fun k_ => (((P0_5_ k_ ∨ w.heap.size ≤ k_) ∧ k_ ≠ gb101) ∧ some k_ ≠ (v104 : Value).ownBlock)) _ _ ((rd_T38 l0_5 1).f3) t107 _ ?side1 A6.out).mono ?_
          (case side1 => exact HL106_5.out)
          rintro e w12 ⟨v108, rfl, ho0, hb⟩
          have HS6_ := (hb.cell (World.block_lt_of_cell? _ _ (hHeld.2.2.2.2.2.2.1))).trans (hHeld.2.2.2.2.2.2.1)
          have HS7_ := (hb.cell (World.block_lt_of_cell? _ _ (hHeld.2.2.2.2.2.2.2.1))).trans (hHeld.2.2.2.2.2.2.2.1)
          have HS8_ := (hb.cell (World.block_lt_of_cell? _ _ (hHeld.2.2.2.2.2.2.2.2.1))).trans (hHeld.2.2.2.2.2.2.2.2.1)
          have HS9_ := (hb.cell (World.block_lt_of_cell? _ _ (hHeld.2.2.2.2.2.2.2.2.2.1))).trans (hHeld.2.2.2.2.2.2.2.2.2.1)
          have HS10_ := (hb.cell (World.block_lt_of_cell? _ _ (hHeld.2.2.2.2.2.2.2.2.2.2.1))).trans (hHeld.2.2.2.2.2.2.2.2.2.2.1)
          have HS11_ := (hb.cell (World.block_lt_of_cell? _ _ (hHeld.2.2.2.2.2.2.2.2.2.2.2.1))).trans (hHeld.2.2.2.2.2.2.2.2.2.2.2.1)
          have HS12_ := (hb.cell (World.block_lt_of_cell? _ _ (hHeld.2.2.2.2.2.2.2.2.2.2.2.2.1))).trans (hHeld.2.2.2.2.2.2.2.2.2.2.2.2.1)
          have HS13_ := (hb.cell (World.block_lt_of_cell? _ _ (hHeld.2.2.2.2.2.2.2.2.2.2.2.2.2.1))).trans (hHeld.2.2.2.2.2.2.2.2.2.2.2.2.2.1)
          have HS14_ := (hb.cell (World.block_lt_of_cell? _ _ (hHeld.2.2.2.2.2.2.2.2.2.2.2.2.2.2.1))).trans (hHeld.2.2.2.2.2.2.2.2.2.2.2.2.2.2.1)
          have HS15_ := (hb.cell (World.block_lt_of_cell? _ _ (hHeld.2.2.2.2.2.2.2.2.2.2.2.2.2.2.2.1))).trans (hHeld.2.2.2.2.2.2.2.2.2.2.2.2.2.2.2.1)
          have HS16_ := (hb.cell (World.block_lt_of_cell? _ _ (hHeld.2.2.2.2.2.2.2.2.2.2.2.2.2.2.2.2.1))).trans (hHeld.2.2.2.2.2.2.2.2.2.2.2.2.2.2.2.2.1)
          have HS17_ := (hb.cell (World.block_lt_of_cell? _ _ (hHeld.2.2.2.2.2.2.2.2.2.2.2.2.2.2.2.2.2))).trans (hHeld.2.2.2.2.2.2.2.2.2.2.2.2.2.2.2.2.2)
          refine ⟨_, rfl, ?_⟩
          have n0_ := Aside0.mk (Kd.V_elder' (by (with_reducible repeat (first | apply Kd.V_alloc | apply Kd.V_drewN | apply Kd.V_drew)); exact HO0_5.out) (Kd.N_base ho0) hb)
          have n1_ := Aside0.mk (Kd.V_elder' (by (with_reducible repeat (first | apply Kd.V_alloc | apply Kd.V_drewN | apply Kd.V_drew)); exact HL102_5.out) (Kd.N_base ho0) hb)
          have n2_ := Aside0.mk (Kd.V_elder' (by (with_reducible repeat (first | apply Kd.V_alloc | apply Kd.V_drewN | apply Kd.V_drew)); exact HL106_5.out) (Kd.N_base ho0) hb)
          have n3_ := Aside0.mk (Kd.N_elder' (by (with_reducible repeat (first | apply Kd.N_alloc | apply Kd.N_drewN | apply Kd.N_drew)); exact HO105.out) (Kd.N_base ho0) hb)
          have n4_ := Aside0.mk (Kd.N_lower (Kd.N_mono (ok' := fun k_ => (P0_5_ k_ ∨ w.heap.size ≤ k_) ∧ some k_ ≠ (v104 : Value).ownBlock ∧ k_ ≠ gb101) ho0 (fun k_ hk_ => ⟨Or.elim hk_ (fun hs_ => hs_.1.1) (fun hn_ => (.inr (Nat.le_trans (below_size (by repeat (first | (with_reducible first | exact HB.out | apply below_alloc | apply pw_below_drewN | apply below_drew1 | refine below_set ?_ GE101.out) | exact HB.out))) hn_))), Or.elim hk_ (fun hs_ => hs_.2) (fun hn_ => (Kd.fresh' (Kd.N_lt (by (with_reducible repeat (first | apply Kd.N_alloc | apply Kd.N_drewN | apply Kd.N_drew)); exact HO105.out)) k_ hn_)), Or.elim hk_ (fun hs_ => hs_.1.2) (fun hn_ => (Kd.freshB (g := gb101) (o := .cells #[.int .i64 a0_0, .int .i64 a0_1, .int .i64 a0_2, .int .i64 a0_3, .string a0_4, .slice (some ad102) l0_5.length c0_5] 38 (0, 0)) (by (with_reducible repeat (first | refine blk_drewN ?_ _ | refine blk_drew ?_ | refine blk_alloc ?_ _)); exact BK101.out) k_ hn_))⟩)) (below_size (by repeat (first | (with_reducible first | exact HB.out | apply below_alloc | apply pw_below_drewN | apply below_drew1 | refine below_set ?_ GE101.out) | exact HB.out))))
          have n5_ := Aside0.mk (blk_below (g := gb101) (o := .cells #[.int .i64 a0_0, .int .i64 a0_1, .int .i64 a0_2, .int .i64 a0_3, .string a0_4, .slice (some ad102) l0_5.length c0_5] 38 (0, 0)) (by (with_reducible repeat (first | refine blk_drewN ?_ _ | refine blk_drew ?_ | refine blk_alloc ?_ _)); exact BK101.out) hb)
          have n6_ := Aside0.mk (Kd.C_below (by repeat (first | (with_reducible exact HR102_5.out) | (with_reducible refine Kd.C_alloc ?_ _) | (with_reducible refine Kd.C_drewN ?_ _) | (with_reducible refine Kd.C_drew ?_) | exact HR102_5.out)) hb)
          have n7_ := Aside0.mk (Kd.C_below (by repeat (first | (with_reducible exact HR106_5.out) | (with_reducible refine Kd.C_alloc ?_ _) | (with_reducible refine Kd.C_drewN ?_ _) | (with_reducible refine Kd.C_drew ?_) | exact HR106_5.out)) hb)
          have n8_ := Aside0.mk (below_step (by repeat (first | (with_reducible first | exact HB.out | apply below_alloc | apply pw_below_drewN | apply below_drew1 | refine below_set ?_ GE101.out) | exact HB.out)) hb)
          clear HO0_5
          clear HL102_5
          clear HL106_5
          clear HO105
          clear BK101
          clear HR102_5
          clear HR106_5
          clear HB
          have HO0_5 := n0_
          have HL102_5 := n1_
          have HL106_5 := n2_
          have HO105 := n3_
          have HO109 := n4_
          have BK101 := n5_
          have HR102_5 := n6_
          have HR106_5 := n7_
          have HB := n8_
          clear n0_ n1_ n2_ n3_ n4_ n5_ n6_ n7_ n8_
          (try clear hb)
          (try clear hb2)
          (try clear hk)
          (try clear hi)
          (try clear ho0)
          obtain ⟨Ao14, co14, eo14⟩ := Kd.N_slice HO109.out
          (first | subst eo14 | (injection eo14 with f1_ f2_ f3_; have f4_ := f1_.symm; have f5_ := f3_.symm; clear f1_ f2_ f3_; subst f4_; subst f5_))
          refine hK.out _ _ ⟨(blk_cell BK101.out 0).trans rfl, (blk_cell BK101.out 1).trans rfl, (blk_cell BK101.out 2).trans rfl, (blk_cell BK101.out 3).trans rfl, (blk_cell BK101.out 4).trans rfl, (blk_cell BK101.out 5).trans rfl, HS6_, HS7_, HS8_, HS9_, HS10_, HS11_, HS12_, HS13_, HS14_, HS15_, HS16_, HS17_⟩ (fun hHeld => ?_)
          clear hK K
          refine norm_ (a' := ?_) ?_ ?_
          rotate_left
          · show Act.put _ (some 17) _ = _
            simp only [Act.put, List.setIfInBounds_toArray, List.set_cons_zero, List.set_cons_succ, i64_w, i32_w]
            rfl
          refine last_ (i := 10) (N := some 18) #[true, true, true, true, true, true, true, true, true, true, true, false] rfl rfl (one_of HT_.out (by kernel_rfl)) (by decide) (fun K hK => ?_)
          refine Kd.N_append_rows_step k38 (w0 := w) w.heap.size (by rfl) (.tmp 12) (.tmp 17) 36 38 (.agg #[(.int .i64 0), (.int .i64 0), (.int .i64 0), (.int .i64 0), (.string ⟨#[]⟩), (.slice none 0 0)]) 72 rfl Tryz.underlying36 info38 rfl (by decide) (by omega) v104 t103 t107 _ _ _ (fun k_ => (P0_5_ k_ ∨ w.heap.size ≤ k_) ∧ k_ ≠ gb101) (fun k_ => ((fun k_ => (P0_5_ k_ ∨ w.heap.size ≤ k_) ∧ k_ ≠ gb101)) k_ ∧ some k_ ≠ (v104 : Value).ownBlock) rfl rfl ?aO ?aR (fun _ hk => hk) ?aF ?aB ?aS ?aL ?_
          (case aR => exact (by skip; exact Kd.N_F (Kd.N_mono (ok' := (fun k_ => ((fun k_ => (P0_5_ k_ ∨ w.heap.size ≤ k_) ∧ k_ ≠ gb101)) k_ ∧ some k_ ≠ (v104 : Value).ownBlock)) (HO109.out) (fun k_ hk => ⟨⟨hk.1, hk.2.2⟩, hk.2.1⟩))))
          (case aB => exact (by repeat (first | (with_reducible first | exact HB.out | apply below_alloc | apply pw_below_drewN | apply below_drew1 | refine below_set ?_ GE101.out) | exact HB.out)))
          (case aF => exact (fun k_ hk => ⟨(.inr (Nat.le_trans (below_size (by repeat (first | (with_reducible first | exact HB.out | apply below_alloc | apply pw_below_drewN | apply below_drew1 | refine below_set ?_ GE101.out) | exact HB.out))) hk)), Kd.freshB (g := gb101) (o := .cells #[.int .i64 a0_0, .int .i64 a0_1, .int .i64 a0_2, .int .i64 a0_3, .string a0_4, .slice (some ad102) l0_5.length c0_5] 38 (0, 0)) (by (with_reducible repeat (first | refine blk_drewN ?_ _ | refine blk_drew ?_ | refine blk_alloc ?_ _)); exact BK101.out) k_ hk⟩))
          (case aO => exact (by (with_reducible repeat (first | apply Kd.N_alloc | apply Kd.N_drewN | apply Kd.N_drew)); exact Kd.N_mono HO105.out (fun _ hk => ⟨hk.1.1, hk.1.2⟩)))
          (case aS => exact (below_size (by repeat (first | (with_reducible first | exact HB.out | apply below_alloc | apply pw_below_drewN | apply below_drew1 | refine below_set ?_ GE101.out) | exact HB.out))))
          (case aL => have := LMc7.out; omega)
          intro v111 w13 ho hb hg hat
          rw [← Ny110.out] at ho
          have n0_ := Aside0.mk (Kd.V_afterv (ok := (fun k_ => (P0_5_ k_ ∨ w.heap.size ≤ k_) ∧ some k_ ≠ (.slice Ao14 t107.length co14 : Value).ownBlock ∧ k_ ≠ gb101)) (by (with_reducible repeat (first | apply Kd.V_alloc | apply Kd.V_drewN | apply Kd.V_drew)); exact Kd.V_mono HO0_5.out (fun _ hk => ⟨⟨hk.1.1.1, ⟨hk.2, hk.1.1.2⟩⟩, hk.1.2⟩)) hg hat)
          have n1_ := Aside0.mk (blk_grown (g := gb101) (o := .cells #[.int .i64 a0_0, .int .i64 a0_1, .int .i64 a0_2, .int .i64 a0_3, .string a0_4, .slice (some ad102) l0_5.length c0_5] 38 (0, 0)) (by (with_reducible repeat (first | refine blk_drewN ?_ _ | refine blk_drew ?_ | refine blk_alloc ?_ _)); exact BK101.out) hg (Kd.N_away HO105.out (fun _ hk => hk.1.2)))
          have n2_ := Aside0.mk (Kd.V_afterv (ok := (fun k_ => (P0_5_ k_ ∨ w.heap.size ≤ k_) ∧ some k_ ≠ (.slice Ao14 t107.length co14 : Value).ownBlock ∧ k_ ≠ gb101)) (by (with_reducible repeat (first | apply Kd.V_alloc | apply Kd.V_drewN | apply Kd.V_drew)); exact Kd.V_mono HL102_5.out (fun _ hk => ⟨⟨hk.1.1.1, ⟨hk.2, hk.1.1.2⟩⟩, hk.1.2⟩)) hg hat)
          have n3_ := Aside0.mk (Kd.V_afterv (ok := (fun k_ => (P0_5_ k_ ∨ w.heap.size ≤ k_) ∧ some k_ ≠ (.slice Ao14 t107.length co14 : Value).ownBlock ∧ k_ ≠ gb101)) (by (with_reducible repeat (first | apply Kd.V_alloc | apply Kd.V_drewN | apply Kd.V_drew)); exact Kd.V_mono HL106_5.out (fun _ hk => ⟨⟨hk.1.1.1, ⟨hk.2, hk.1.1.2⟩⟩, hk.1.2⟩)) hg hat)
          have n4_ := Aside0.mk (Kd.N_afterv (ok := (fun k_ => (P0_5_ k_ ∨ w.heap.size ≤ k_) ∧ k_ ≠ gb101)) (by (with_reducible repeat (first | apply Kd.N_alloc | apply Kd.N_drewN | apply Kd.N_drew)); exact Kd.N_mono HO109.out (fun _ hk => ⟨⟨hk.1, hk.2.2⟩, hk.2.1⟩)) hg hat)
          have n5_ := Aside0.mk (hb)
          have n6_ := Aside0.mk (ho)
          clear HO0_5
          clear BK101
          clear HL102_5
          clear HL106_5
          clear HO109
          clear HB
          clear HO105
          have HO0_5 := n0_
          have BK101 := n1_
          have HL102_5 := n2_
          have HL106_5 := n3_
          have HO109 := n4_
          have HB := n5_
          have HO112 := n6_
          clear n0_ n1_ n2_ n3_ n4_ n5_ n6_
          clear ho hb hg hat
          refine hK.out _ _ ?_
          clear hK K
          refine norm_ (a' := ?_) ?_ ?_
          rotate_left
          · show Act.put _ (some 18) _ = _
            simp only [Act.put, List.setIfInBounds_toArray, List.set_cons_zero, List.set_cons_succ, i64_w, i32_w]
            rfl
          refine pure_ (i := 11) (N := some 2) (v := ?_) (a' := ?_) #[true, true, true, true, true, true, true, true, true, true, true, true] rfl rfl (any_of HT_.out (by kernel_rfl)) (fun _ _ _ h => h) (Or.inl ⟨by rfl, ?_⟩) ?_ ?_
          rotate_left
          · intro w'
            go_simp
            with_reducible rfl
          rotate_left
          · simp only [Act.put, List.setIfInBounds_toArray, List.set_cons_zero, List.set_cons_succ, i64_w, i32_w]
            rfl
          refine done_ (done_of HT_.out (by kernel_rfl)) ?_
          try go_wp2
          go_ret
          exact ⟨_, by first | rfl | (simp [errW_none, errW_some] <;> rfl) | (simp [*, errW_none, errW_some] <;> rfl), by (with_reducible repeat (first | apply Kd.N_alloc | apply Kd.N_drewN | apply Kd.N_drew)); exact Kd.N_mono HO112.out (fun _ hk => hk.1), by repeat (first | (with_reducible first | exact HB.out | apply below_alloc | apply pw_below_drewN | apply below_drew1 | refine below_set ?_ GE101.out) | exact HB.out)⟩
        · rw [if_neg c7] at H
          exact absurd H (by simp)
      · rw [if_neg c5] at H
        exact absurd H (by simp)
    · rw [if_neg c3] at H
      exact absurd H (by simp)
  · rw [if_neg c2] at H
    have c2b0 : (a0_0 == 6) = false := beq_eq_false_iff_ne.mpr c2
    have c2b1 : (a0_0 != 6) = true := bne_iff_ne.mpr c2
    obtain ⟨y113, hy113⟩ : ∃ y_ : List (S38), y_ = (([(⟨a0_0, a0_1, (⟨a0_2, a0_3, a0_4⟩ : S35), l0_5⟩ : S38)] : List (S38))) := ⟨_, rfl⟩
    replace H : (some y113) = some r := by first | (rw [hy113]; with_reducible exact H) | (have H2_ := (Option.bind_some _ _).symm.trans H; rw [hy113]; with_reducible exact H2_) | (have H2_ := (Option.bind_some _ _).symm.trans H; with_reducible exact H2_) | with_reducible exact H | (rw [hy113]; exact H) | exact H
    have Ny113 := Aside0.mk hy113
    clear hy113
    obtain rfl := Option.some.inj H
    go_enter Tryz.func99, Tryz.ntmps99
    go_wp2_with (first | ((with_reducible refine gate_dst (N := 1) rfl ?_); refine box_event ?hg (N := 1) ?hd (cs := #[.int .i64 a0_0, .int .i64 a0_1, .int .i64 a0_2, .int .i64 a0_3, .string a0_4, .slice A0_5 l0_5.length c0_5]) (t := 38) ?hr ?_; (case hd => rfl); (case hg => rfl); (case hr => first | (go_simp; done) | (go_simp; rfl)); intro gb101 hg w15 hbox hb; have n0_ := Aside0.mk (Kd.V_below (Kd.V_elderB (by (with_reducible repeat (first | apply Kd.V_alloc | apply Kd.V_drewN | apply Kd.V_drew)); exact HO0_5.out) gb101 (Nat.le_of_eq hg.symm)) hb); have n1_ := Aside0.mk (below_step (by repeat (first | (with_reducible first | exact HB.out | apply below_alloc | apply pw_below_drewN | apply below_drew1) | exact HB.out)) hb); have n2_ := Aside0.mk (hbox); have n3_ := Aside0.mk ((by rw [hg]; exact (below_size (by repeat (first | (with_reducible first | exact HB.out | apply below_alloc | apply pw_below_drewN | apply below_drew1) | exact HB.out))) : w.heap.size ≤ gb101)); have n4_ := Aside0.mk ((by rw [hg]; exact (below_size (by repeat (first | (with_reducible first | exact HB.out | apply below_alloc | apply pw_below_drewN | apply below_drew1) | exact HB.out))) : w.heap.size ≤ gb101)); clear HO0_5; clear HB; have HO0_5 := n0_; have HB := n1_; have BK101 := n2_; have GW101 := n3_; have GE101 := n4_; clear n0_ n1_ n2_ n3_ n4_; clear hb hbox hg; have hcz16_0 : w15.cell? ⟨gb101, 0, none⟩ = some (.int .i64 a0_0) := (blk_cell BK101.out 0).trans rfl; have hcz16_1 : w15.cell? ⟨gb101, 1, none⟩ = some (.int .i64 a0_1) := (blk_cell BK101.out 1).trans rfl; have hcz16_2 : w15.cell? ⟨gb101, 2, none⟩ = some (.int .i64 a0_2) := (blk_cell BK101.out 2).trans rfl; have hcz16_3 : w15.cell? ⟨gb101, 3, none⟩ = some (.int .i64 a0_3) := (blk_cell BK101.out 3).trans rfl; have hcz16_4 : w15.cell? ⟨gb101, 4, none⟩ = some (.string a0_4) := (blk_cell BK101.out 4).trans rfl; have hcz16_5 : w15.cell? ⟨gb101, 5, none⟩ = some (.slice A0_5 l0_5.length c0_5) := (blk_cell BK101.out 5).trans rfl; have hfz16_0 := blk_frozen BK101.out 0; have hfz16_1 := blk_frozen BK101.out 1; have hfz16_2 := blk_frozen BK101.out 2; have hfz16_3 := blk_frozen BK101.out 3; have hfz16_4 := blk_frozen BK101.out 4; have hfz16_5 := blk_frozen BK101.out 5) | ((with_reducible refine gate_dst (N := 7) rfl ?_); refine Kd.N_lit k38 _ 38 ?hg (N' := 7) ?hd (xs := ([(⟨a0_0, a0_1, (⟨a0_2, a0_3, a0_4⟩ : S35), l0_5⟩ : S38)] : List (S38))) (inner := [.int .i64 a0_0, .int .i64 a0_1, .int .i64 a0_2, .int .i64 a0_3, .string a0_4, .slice A0_5 l0_5.length c0_5]) (ok := (fun k_ => (P0_5_ k_ ∨ w.heap.size ≤ k_) ∧ k_ ≠ gb101)) (okp := (fun k_ => (P0_5_ k_ ∨ w.heap.size ≤ k_) ∧ k_ ≠ gb101)) ?hr ?hp (fun _ hk => hk) ((show ∀ k_, w15.heap.size ≤ k_ → (fun k_ => (P0_5_ k_ ∨ w.heap.size ≤ k_) ∧ k_ ≠ gb101) k_ from fun k_ hk => ⟨(.inr (Nat.le_trans (below_size (by repeat (first | (with_reducible first | exact HB.out | apply below_alloc | apply pw_below_drewN | apply below_drew1 | refine below_set ?_ GE101.out) | exact HB.out))) hk)), Kd.freshB (g := gb101) (o := .cells #[.int .i64 a0_0, .int .i64 a0_1, .int .i64 a0_2, .int .i64 a0_3, .string a0_4, .slice A0_5 l0_5.length c0_5] 38 (0, 0)) (by (with_reducible repeat (first | refine blk_drewN ?_ _ | refine blk_drew ?_ | refine blk_alloc ?_ _)); exact BK101.out) k_ hk⟩) _ (Nat.le_refl _)) (Below.refl _ _) (Nat.le_refl _) (by simp) ?_; (case hd => rfl); (case hg => rfl); (case hr => first | (go_simp; done) | (go_simp; rfl)); (case hp => exact (Reps.c6 (show Kd.FK k38 _ _ (⟨a0_0, a0_1, (⟨a0_2, a0_3, a0_4⟩ : S35), l0_5⟩ : S38) [.int .i64 a0_0, .int .i64 a0_1, .int .i64 a0_2, .int .i64 a0_3, .string a0_4, .slice A0_5 l0_5.length c0_5] from (k38_mkF _ _ (⟨a0_0, a0_1, (⟨a0_2, a0_3, a0_4⟩ : S35), l0_5⟩ : S38) (Kd.V_reads' (Kd.V_mono (ok' := (fun k_ => (P0_5_ k_ ∨ w.heap.size ≤ k_) ∧ k_ ≠ gb101)) (HO0_5.out) (fun k_ hk => ⟨hk.1, hk.2⟩))).2.1 (Kd.V_F (Kd.V_mono (ok' := (fun k_ => (P0_5_ k_ ∨ w.heap.size ≤ k_) ∧ k_ ≠ gb101)) (HO0_5.out) (fun k_ hk => ⟨hk.1, hk.2⟩))))) (Reps.none _ _))); intro v114 w17 ho18 hb hg_ hnew_; clear hg_ hnew_; (first | rw [← Ny113.out] at ho18 | (simp only [Int.reduceToNat] at ho18; rw [← Ny113.out] at ho18)); have n0_ := Aside0.mk (Kd.V_elder' (by (with_reducible repeat (first | apply Kd.V_alloc | apply Kd.V_drewN | apply Kd.V_drew)); exact HO0_5.out) (Kd.N_base ho18) hb); have n1_ := Aside0.mk (Kd.N_lower ho18 (below_size (by repeat (first | (with_reducible first | exact HB.out | apply below_alloc | apply pw_below_drewN | apply below_drew1 | refine below_set ?_ GE101.out) | exact HB.out)))); have n2_ := Aside0.mk (blk_below (g := gb101) (o := .cells #[.int .i64 a0_0, .int .i64 a0_1, .int .i64 a0_2, .int .i64 a0_3, .string a0_4, .slice A0_5 l0_5.length c0_5] 38 (0, 0)) (by (with_reducible repeat (first | refine blk_drewN ?_ _ | refine blk_drew ?_ | refine blk_alloc ?_ _)); exact BK101.out) hb); have n3_ := Aside0.mk (below_step (by repeat (first | (with_reducible first | exact HB.out | apply below_alloc | apply pw_below_drewN | apply below_drew1 | refine below_set ?_ GE101.out) | exact HB.out)) hb); clear HO0_5; clear BK101; clear HB; have HO0_5 := n0_; have HO115 := n1_; have BK101 := n2_; have HB := n3_; clear n0_ n1_ n2_ n3_; clear hb ho18))
    go_ret
    exact ⟨_, by first | rfl | (simp [errW_none, errW_some] <;> rfl) | (simp [*, errW_none, errW_some] <;> rfl), by (with_reducible repeat (first | apply Kd.N_alloc | apply Kd.N_drewN | apply Kd.N_drew)); exact Kd.N_mono HO115.out (fun _ hk => hk.1), by repeat (first | (with_reducible first | exact HB.out | apply below_alloc | apply pw_below_drewN | apply below_drew1 | refine below_set ?_ GE101.out) | exact HB.out)⟩
end Go.Proofs.YteflfnjljjianaaGreatDoor.Qx
namespace Go.Proofs.YteflfnjljjianaaGreatDoor.Qx
open Go.RowKit
set_option linter.unusedSimpArgs false
set_option linter.unusedVariables false
theorem checkKey_step {P : Program} {b : Bool} {K : TypeId} {key : Value} {w : World} (n : Nat) (kd : TypeDesc) (hK : P.underlying K = some kd) (hs : kd = .bool ∨ ∃ k, kd = .int k) : (Instr.checkKey b (n + 1) K key).run P w = .ok () w := by
  rcases hs with rfl | ⟨k, rfl⟩
  · unfold Instr.checkKey
    simp [underlying, hK, go_sem]
  · unfold Instr.checkKey
    simp [underlying, hK, go_sem]
theorem mapPut {P : Program} {T K E : TypeId} (kd : TypeDesc) (hT : P.underlying T = some (.map K E)) (hK : P.underlying K = some kd) (hs : kd = .bool ∨ ∃ k, kd = .int k) (w : World) (g : Nat) (es : Array MapEntry) (clock : Nat) (key v : Value)
    (hg : w.heap[g]? = some (.map es clock)) (hf : Instr.findNow kd key es.toList 0 = some none) :
    (Instr.mapUpdate T (.map (some g)) key v).run P w = .ok () { w with heap := w.heap.setIfInBounds g (.map (es.push { key, val := v, born := clock }) (clock + 1)) } := by
  have hc : (Instr.checkKey false 10000 K key).run P w = .ok () w := checkKey_step 9999 kd hK hs
  unfold Instr.mapUpdate Instr.findKey
  simp [underlying, getObj, setObj, Sem.run, hT, hK, hg, hf, hc, go_sem]
theorem mapGet {P : Program} {T K E : TypeId} (kd : TypeDesc) (hT : P.underlying T = some (.map K E)) (hK : P.underlying K = some kd) (hs : kd = .bool ∨ ∃ k, kd = .int k) (w : World) (g : Nat) (es : Array MapEntry) (clock : Nat) (key v : Value) (i : Nat)
    (hg : w.heap[g]? = some (.map es clock)) (hf : Instr.findNow kd key es.toList 0 = some (some (i, v))) :
    (Instr.lookup T (.map (some g)) key false).run P w = .ok v w := by
  have hc : (Instr.checkKey es.isEmpty 10000 K key).run P w = .ok () w := checkKey_step 9999 kd hK hs
  unfold Instr.lookup Instr.findKey
  simp [underlying, getObj, setObj, Sem.run, hT, hK, hg, hf, hc, go_sem]
theorem mapMissOk {P : Program} {T K E : TypeId} (kd : TypeDesc) (hT : P.underlying T = some (.map K E)) (hK : P.underlying K = some kd) (hs : kd = .bool ∨ ∃ k, kd = .int k) (w : World) (g : Nat) (es : Array MapEntry) (clock : Nat) (key z : Value)
    (hz : ∀ w, (zeroValue E).run P w = .ok z w)
    (hg : w.heap[g]? = some (.map es clock)) (hf : Instr.findNow kd key es.toList 0 = some none) :
    (Instr.lookup T (.map (some g)) key true).run P w = .ok (.tuple #[z, .bool false]) w := by
  have hc : (Instr.checkKey es.isEmpty 10000 K key).run P w = .ok () w := checkKey_step 9999 kd hK hs
  unfold Instr.lookup Instr.findKey
  simp [underlying, getObj, setObj, Sem.run, hT, hK, hg, hf, hc, hz, go_sem]
end Go.Proofs.YteflfnjljjianaaGreatDoor.Qx
namespace Go.Proofs.YteflfnjljjianaaGreatDoor.Qx
open Go.RowKit Go.Proofs.YteflfnjljjianaaGreatDoorW.PrintWords Go.Proofs.YteflfnjljjianaaGreatDoorW.PrintLast Go.Proofs.YteflfnjljjianaaGreatDoorW.PrintMore
attribute [local go_sem] max2_int min2_int max_two min_two
set_option linter.unusedVariables false
set_option linter.unusedSimpArgs false
theorem alloc_setObj (w : World) (o o' : Obj) : ({ w.alloc o with heap := (w.alloc o).heap.setIfInBounds w.heap.size o' } : World) = w.alloc o' := by
  have h : (w.heap.push o).setIfInBounds w.heap.size o' = w.heap.push o' := by
    apply Array.ext_getElem?
    intro i
    rw [Array.getElem?_setIfInBounds, Array.getElem?_push, Array.getElem?_push, Array.size_push]
    by_cases c : w.heap.size = i
    · subst c
      simp
    · rw [if_neg c, if_neg (fun z => c z.symm), if_neg (fun z => c z.symm)]
  show ({ heap := (w.heap.push o).setIfInBounds w.heap.size o', tape := w.tape, drawn := w.drawn, os := w.os, output := w.output } : World) = _
  rw [h]
  rfl
def boolMap (g : Nat) (w : World) : Prop := w.heap[g]? = some (.map #[⟨.bool false, .agg #[.int .i64 1, .int .i64 0, .string ⟨#[]⟩], 0⟩, ⟨.bool true, .agg #[.int .i64 1, .int .i64 1, .string ⟨#[]⟩], 1⟩] 2)
def BoolsPost (w : World) (e : Ending) (w' : World) : Prop := ∃ g, e = .returned (.map (some g)) ∧ boolMap g w' ∧ w.heap.size ≤ g ∧ Below w.heap.size w w'
set_option maxHeartbeats 1000000 in
theorem bounds_bools.made (w : World) : Calls Tryz.prog 157 #[] w (BoolsPost w) := by
  have hu35 := Tryz.underlying35
  have hu200 := Tryz.underlying200
  have hu4 := Tryz.underlying4
  have hmm := @run_makeMap Tryz.prog
  have q1 : (Instr.mapUpdate 200 (.map (some w.heap.size)) (.bool false) (.agg #[.int .i64 1, .int .i64 0, .string ⟨#[]⟩])).run Tryz.prog (w.alloc (.map #[] 0)) = .ok () (w.alloc (.map #[⟨.bool false, .agg #[.int .i64 1, .int .i64 0, .string ⟨#[]⟩], 0⟩] 1)) := by
    rw [mapPut .bool Tryz.underlying200 Tryz.underlying4 (.inl rfl) _ _ #[] 0 _ _ (heap_alloc_new w _) rfl]
    rw [alloc_setObj]; rfl
  have q2 : (Instr.mapUpdate 200 (.map (some w.heap.size)) (.bool true) (.agg #[.int .i64 1, .int .i64 1, .string ⟨#[]⟩])).run Tryz.prog (w.alloc (.map #[⟨.bool false, .agg #[.int .i64 1, .int .i64 0, .string ⟨#[]⟩], 0⟩] 1)) = .ok () (w.alloc (.map #[⟨.bool false, .agg #[.int .i64 1, .int .i64 0, .string ⟨#[]⟩], 0⟩, ⟨.bool true, .agg #[.int .i64 1, .int .i64 1, .string ⟨#[]⟩], 1⟩] 2)) := by
    rw [mapPut .bool Tryz.underlying200 Tryz.underlying4 (.inl rfl) _ _ _ _ _ _ (heap_alloc_new w _) rfl]
    rw [alloc_setObj]; rfl
  go_enter Tryz.func157, Tryz.ntmps157
  go_wp2
  go_ret
  exact ⟨_, rfl, heap_alloc_new w _, Nat.le_refl _, (Below.refl _ w).alloc (Nat.le_refl _) _⟩
theorem boolMap.below {g : Nat} {w w' : World} (h : boolMap g w) (hb : Below w.heap.size w w') : boolMap g w' := (hb.block g (by obtain ⟨q, _⟩ := Array.getElem?_eq_some_iff.1 h; exact q)).trans h
theorem boolMap.f {g : Nat} {w : World} (h : boolMap g w) : (Instr.lookup 200 (.map (some g)) (.bool false) false).run Tryz.prog w = .ok (.agg #[.int .i64 1, .int .i64 0, .string ⟨#[]⟩]) w := mapGet .bool Tryz.underlying200 Tryz.underlying4 (.inl rfl) w g _ _ _ _ 0 h rfl
theorem boolMap.t {g : Nat} {w : World} (h : boolMap g w) : (Instr.lookup 200 (.map (some g)) (.bool true) false).run Tryz.prog w = .ok (.agg #[.int .i64 1, .int .i64 1, .string ⟨#[]⟩]) w := mapGet .bool Tryz.underlying200 Tryz.underlying4 (.inl rfl) w g _ _ _ _ 1 h rfl
end Go.Proofs.YteflfnjljjianaaGreatDoor.Qx
