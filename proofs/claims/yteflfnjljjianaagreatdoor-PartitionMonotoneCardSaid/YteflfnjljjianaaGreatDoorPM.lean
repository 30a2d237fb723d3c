/- For every drawn input that is laid out, the card PartitionMonotone answers as its law says (PartitionMonotoneCardSaid); there are no conditions. -/
import Derived.Test.YteflfnjljjianaaGreatDoorPM02
import Derived.Test.YteflfnjljjianaaGreatDoorPM03
import Derived.Test.YteflfnjljjianaaGreatDoorPM05
import Derived.Test.YteflfnjljjianaaGreatDoorPM06
import Derived.Test.YteflfnjljjianaaGreatDoorPM11
import Derived.Test.YteflfnjljjianaaGreatDoorPM12
import Derived.Test.YteflfnjljjianaaGreatDoorPM10
import Derived.KernelRfl
import Derived.Test.YteflfnjljjianaaGreatDoorRows
import Derived.Test.YteflfnjljjianaaGreatDoorTie
import Derived.Test.YteflfnjljjianaaGreatDoorCards
import Derived.WalkKit
import Derived.ProofKit
import Derived.OpenShut
import Derived.ShutString
import Derived.ChangeOld
import Derived.Below
import Derived.SizedLaws
import Derived.JoinedOf
import Derived.LaidLaws
import Derived.LaidHandle
import Derived.Laws.IdiomArrays
import Derived.SevenTiedAt
import Derived.RowKitTokens
import Derived.ChangeVars
namespace Go.Proofs.YteflfnjljjianaaGreatDoor.Qx
open Go.RowKit Go.Proofs.YteflfnjljjianaaGreatDoorW.PrintWords Go.Proofs.YteflfnjljjianaaGreatDoorW.PrintLast Go.Proofs.YteflfnjljjianaaGreatDoorW.PrintMore
attribute [local go_sem] max2_int min2_int max_two min_two
set_option linter.unusedVariables false
set_option linter.unusedSimpArgs false
def OwnV (N : Nat) (xs : List S35) (v : Value) (X : World) : Prop := X.ownsRow N 35 3 v xs.length (xs.flatMap c35')
theorem OwnV.below {N : Nat} {xs : List S35} {v : Value} {X Y : World} (h : OwnV N xs v X) (hb : Below X.heap.size X Y) : OwnV N xs v Y := own_below h hb
def MonA (A1 : Option Addr) (c1 : Nat) (l1 : List Int) (A2 : Option Addr) (c2 : Nat) (l2 : List Int) (AT : Option Addr) (T : List S63) (b5 : Nat) (X : World) : Prop :=
  Laid X ∧ Kd.C k63 X AT T.length T ∧ Kd.C (Kd.int .u8) X A1 l1.length l1 ∧ Kd.C (Kd.int .u8) X A2 l2.length l2 ∧ X.heap[b5]? = some (.cells #[.slice A1 l1.length c1, .slice A2 l2.length c2] 23 (0, 0))
theorem MonA.below {A1 : Option Addr} {c1 : Nat} {l1 : List Int} {A2 : Option Addr} {c2 : Nat} {l2 : List Int} {AT : Option Addr} {T : List S63} {b5 : Nat} {X Y : World} (h : MonA A1 c1 l1 A2 c2 l2 AT T b5 X) (hb : Below X.heap.size X Y) : MonA A1 c1 l1 A2 c2 l2 AT T b5 Y :=
  ⟨h.1.below hb, Kd.C_below h.2.1 hb, Kd.C_below h.2.2.1 hb, Kd.C_below h.2.2.2.1 hb, blk_below h.2.2.2.2 hb⟩
def MonB (N : Nat) (AT : Option Addr) (T : List S63) (b9 : Nat) (a b n : Int) (vx vy : Value) (xs ys : List S35) (X : World) : Prop :=
  Laid X ∧ Kd.C k63 X AT T.length T ∧ X.heap[b9]? = some (.cells #[.int .i64 a, .int .i64 b, .int .i64 n] 27 (0, 0)) ∧ OwnV N xs vx X ∧ OwnV N ys vy X
theorem MonB.below {N : Nat} {AT : Option Addr} {T : List S63} {b9 : Nat} {a b n : Int} {vx vy : Value} {xs ys : List S35} {X Y : World} (h : MonB N AT T b9 a b n vx vy xs ys X) (hb : Below X.heap.size X Y) : MonB N AT T b9 a b n vx vy xs ys Y :=
  ⟨h.1.below hb, Kd.C_below h.2.1 hb, blk_below h.2.2.1 hb, h.2.2.2.1.below hb, h.2.2.2.2.below hb⟩
theorem MonB.spec {N : Nat} {AT : Option Addr} {T : List S63} {b9 : Nat} {a b n : Int} {vx vy : Value} {xs ys : List S35} {X : World} (h : MonB N AT T b9 a b n vx vy xs ys X) : X.cell? ⟨b9, 0, none⟩ = some (.int .i64 a) ∧ X.cell? ⟨b9, 1, none⟩ = some (.int .i64 b) ∧ X.cell? ⟨b9, 2, none⟩ = some (.int .i64 n) :=
  ⟨(blk_cell h.2.2.1 0).trans rfl, (blk_cell h.2.2.1 1).trans rfl, (blk_cell h.2.2.1 2).trans rfl⟩
theorem cell35 {X : World} {g : Nat} {p : S35} (h : X.heap[g]? = some (.cells #[.int .i64 p.f0, .int .i64 p.f1, .string p.f2] 35 (0, 0))) : X.cell? ⟨g, 0, none⟩ = some (.int .i64 p.f0) ∧ X.cell? ⟨g, 1, none⟩ = some (.int .i64 p.f1) ∧ X.cell? ⟨g, 2, none⟩ = some (.string p.f2) :=
  ⟨(blk_cell h 0).trans rfl, (blk_cell h 1).trans rfl, (blk_cell h 2).trans rfl⟩
def apart2 (i0 j0 i j : Nat) (v u : Value) : Prop := (i = i0 → j = j0 → v ≠ u) ∧ (j = i0 → i = j0 → u ≠ v)
theorem apart2_none {R : Nat → Value → World → Prop} {i0 j0 k : Nat} {v : Value} {w : World} (h0 : k ≠ i0) (h1 : k ≠ j0) : ∀ j u, R j u w → apart2 i0 j0 k j v u ∧ apart2 i0 j0 j k u v := fun _ _ _ =>
  ⟨⟨fun h => absurd h h0, fun _ h => absurd h h1⟩, ⟨fun _ h => absurd h h1, fun h => absurd h h0⟩⟩
theorem apart2_new {R : Nat → Value → World → Prop} {i0 j0 k : Nat} {w : World} (hk : k = i0 ∨ k = j0) (N : Nat) (t : TypeId) (cs : Array Value) (hR : ∀ j u, j = i0 ∨ j = j0 → R j u w → AtBlk N t cs u w) :
    ∀ j u, R j u w → apart2 i0 j0 k j (.pointer (some ⟨w.heap.size, 0, none⟩)) u ∧ apart2 i0 j0 j k u (.pointer (some ⟨w.heap.size, 0, none⟩)) := by
  intro j u h
  have key : j = i0 ∨ j = j0 → Value.pointer (some ⟨w.heap.size, 0, none⟩) ≠ u := by
    intro hj
    obtain ⟨a, rfl, _, ha⟩ := hR j u hj h
    have := blk_lt ha
    intro e
    injection e with e
    injection e with e
    injection e with e
    omega
  exact ⟨⟨fun _ hj => key (.inr hj), fun hj _ => (key (.inl hj)).symm⟩, ⟨fun hj _ => (key (.inl hj)).symm, fun _ hj => key (.inr hj)⟩⟩
def zero35 : Array Value := #[.int .i64 0, .int .i64 0, .string ⟨#[]⟩]
def put35 (X : World) (g : Nat) (p : S35) : World := ((X.setCell ⟨g, 0, none⟩ (.int .i64 p.f0)).setCell ⟨g, 1, none⟩ (.int .i64 p.f1)).setCell ⟨g, 2, none⟩ (.string p.f2)
theorem put35_at {X : World} {g : Nat} {p : S35} {z : S35} (h : X.heap[g]? = some (.cells #[.int .i64 z.f0, .int .i64 z.f1, .string z.f2] 35 (0, 0))) : (put35 X g p).heap[g]? = some (.cells #[.int .i64 p.f0, .int .i64 p.f1, .string p.f2] 35 (0, 0)) :=
  blk_put (blk_put (blk_put h 0 _ rfl) 1 _ rfl) 2 _ rfl
theorem put35_far {X : World} {g g' : Nat} {p : S35} {t : TypeId} {cs : Array Value} (h : X.heap[g']? = some (.cells cs t (0, 0))) (hne : g' ≠ g) : (put35 X g p).heap[g']? = some (.cells cs t (0, 0)) :=
  blk_far (blk_far (blk_far h hne _) hne _) hne _
theorem put35_below {w X : World} {g : Nat} {p : S35} (h : Below w.heap.size w X) (hg : w.heap.size ≤ g) : Below w.heap.size w (put35 X g p) := below_set (below_set (below_set h hg) hg) hg
theorem two35 {W X : World} {g g' : Nat} {p q : S35} (hX : Below W.heap.size W X) (s : W.heap.size ≤ g) (s' : W.heap.size ≤ g') (hne : g ≠ g') (h : X.heap[g]? = some (.cells zero35 35 (0, 0))) (h' : X.heap[g']? = some (.cells zero35 35 (0, 0))) :
    Below W.heap.size W (put35 (put35 X g p) g' q) ∧ (put35 (put35 X g p) g' q).heap[g]? = some (.cells #[.int .i64 p.f0, .int .i64 p.f1, .string p.f2] 35 (0, 0)) ∧ (put35 (put35 X g p) g' q).heap[g']? = some (.cells #[.int .i64 q.f0, .int .i64 q.f1, .string q.f2] 35 (0, 0)) :=
  ⟨put35_below (put35_below hX s) s', put35_far (put35_at (z := z35) h) hne, put35_at (z := z35) (put35_far h' (fun e => hne e.symm))⟩
def MonC (N : Nat) (AT : Option Addr) (T : List S63) (b9 : Nat) (a b n : Int) (vx vy : Value) (xs ys : List S35) (a12 a13 : Nat) (p q : S35) (X : World) : Prop :=
  MonB N AT T b9 a b n vx vy xs ys X ∧ X.heap[a12]? = some (.cells #[.int .i64 p.f0, .int .i64 p.f1, .string p.f2] 35 (0, 0)) ∧ X.heap[a13]? = some (.cells #[.int .i64 q.f0, .int .i64 q.f1, .string q.f2] 35 (0, 0))
theorem MonC.below {N : Nat} {AT : Option Addr} {T : List S63} {b9 : Nat} {a b n : Int} {vx vy : Value} {xs ys : List S35} {a12 a13 : Nat} {p q : S35} {X Y : World} (h : MonC N AT T b9 a b n vx vy xs ys a12 a13 p q X) (hb : Below X.heap.size X Y) : MonC N AT T b9 a b n vx vy xs ys a12 a13 p q Y :=
  ⟨h.1.below hb, blk_below h.2.1 hb, blk_below h.2.2 hb⟩
theorem OwnV.at0 {N : Nat} {xs : List S35} {A : Option Addr} {c : Nat} {X : World} (h : OwnV N xs (.slice A xs.length c) X) (hn : 0 < xs.length) : ∃ g, A = some ⟨g, 0, none⟩ ∧ N ≤ g := by
  rcases h.2 with ⟨h1, h2⟩ | ⟨g, cap, cur, h1, hg, _⟩
  · omega
  · injection h1 with h1
    exact ⟨g, h1, hg⟩
theorem OwnV.reads {N : Nat} {xs : List S35} {A : Option Addr} {c : Nat} {X : World} (h : OwnV N xs (.slice A xs.length c) X) : Kd.C k35 X A xs.length xs ∧ xs.length ≤ c := by
  obtain ⟨A', c', e, h1, h2⟩ := row_reads h
  injection e with e1 _ e2
  subst e1 e2
  exact ⟨h2, h1⟩
theorem own35 {N : Nat} {xs : List S35} {g c m : Nat} {X : World} (h : OwnV N xs (.slice (some ⟨g, 0, none⟩) xs.length c) X) (hm : m < xs.length) : X.cell? ⟨g, m * 3, none⟩ = some (.int .i64 (rd_T35 xs (m : Int)).f0) ∧
    X.cell? ⟨g, m * 3 + 1, none⟩ = some (.int .i64 (rd_T35 xs (m : Int)).f1) ∧ X.cell? ⟨g, m * 3 + 2, none⟩ = some (.string (rd_T35 xs (m : Int)).f2) := by
  obtain ⟨ad, e, t0, t1, t2⟩ := at_T35 h.reads.1 (m : Int) (by omega) (by omega)
  injection e with e
  subst e
  simp only [Int.toNat_natCast, Addr.add_lit, Nat.zero_add] at t0 t1 t2
  exact ⟨t0, t1, t2⟩
theorem OwnV.frozen {N : Nat} {xs : List S35} {g c : Nat} {X : World} (h : OwnV N xs (.slice (some ⟨g, 0, none⟩) xs.length c) X) (j : Nat) : X.frozen? ⟨g, j, none⟩ = false := World.ownsRow.frozenAt h j
theorem flat_set3 (x : S35) : ∀ (L : List S35) (i : Nat), i < L.length → (((L.flatMap c35').set (i * 3) (.int .i64 x.f0)).set (i * 3 + 1) (.int .i64 x.f1)).set (i * 3 + 2) (.string x.f2) = (L.set i x).flatMap c35'
  | [], _, h => absurd h (by simp)
  | y :: L, 0, _ => by simp [c35']
  | y :: L, i + 1, h => by
    have ih := flat_set3 x L i (by simpa using h)
    simp only [List.flatMap_cons, List.set_cons_succ, ← ih]
    simp only [show (i + 1) * 3 = i * 3 + 3 by omega, show i * 3 + 3 + 1 = i * 3 + 1 + 3 by omega, show i * 3 + 3 + 2 = i * 3 + 2 + 3 by omega]
    simp only [c35', List.cons_append, List.nil_append, List.set_cons_succ]
def putMon (X : World) (g m : Nat) (p : S35) : World := ((X.setCell ⟨g, m * 3, none⟩ (.int .i64 p.f0)).setCell ⟨g, m * 3 + 1, none⟩ (.int .i64 p.f1)).setCell ⟨g, m * 3 + 2, none⟩ (.string p.f2)
theorem OwnV.put {N : Nat} {xs : List S35} {g c m : Nat} {X : World} (h : OwnV N xs (.slice (some ⟨g, 0, none⟩) xs.length c) X) (hm : m < xs.length) (p : S35) : OwnV N (xs.set m p) (.slice (some ⟨g, 0, none⟩) (xs.set m p).length c) (putMon X g m p) := by
  have h1 := ((((World.ownsRow.stored h (m * 3) (.int .i64 p.f0)).1.stored (m * 3 + 1) (.int .i64 p.f1)).1).stored (m * 3 + 2) (.string p.f2)).1
  unfold OwnV putMon
  rw [← flat_set3 p xs m hm, List.length_set]
  exact h1
theorem OwnV.lt {N : Nat} {xs : List S35} {g c : Nat} {X : World} (h : OwnV N xs (.slice (some ⟨g, 0, none⟩) xs.length c) X) : g < X.heap.size := (World.ownsRow.lt h g rfl).2
theorem OwnV.blk {N : Nat} {xs : List S35} {g c : Nat} {X : World} (h : OwnV N xs (.slice (some ⟨g, 0, none⟩) xs.length c) X) : ∃ cur, X.heap[g]? = some (.cells cur 35 (0, 0)) := by
  rcases h.2 with ⟨h1, _⟩ | ⟨g', cap, cur, h1, _, hg, _⟩
  · cases h1
  · injection h1 with h1
    injection h1 with h1
    injection h1 with h1
    exact ⟨cur, h1 ▸ hg⟩
theorem putMon_far {X : World} {g g' m : Nat} {p : S35} {t : TypeId} {cs : Array Value} (h : X.heap[g']? = some (.cells cs t (0, 0))) (hne : g' ≠ g) : (putMon X g m p).heap[g']? = some (.cells cs t (0, 0)) :=
  blk_far (blk_far (blk_far h hne _) hne _) hne _
theorem cell27 {X : World} {g : Nat} {a b n : Int} (h : X.heap[g]? = some (.cells #[.int .i64 a, .int .i64 b, .int .i64 n] 27 (0, 0))) : X.cell? ⟨g, 0, none⟩ = some (.int .i64 a) ∧ X.cell? ⟨g, 1, none⟩ = some (.int .i64 b) ∧ X.cell? ⟨g, 2, none⟩ = some (.int .i64 n) :=
  ⟨(blk_cell h 0).trans rfl, (blk_cell h 1).trans rfl, (blk_cell h 2).trans rfl⟩
attribute [local go_sem high] eqA35
def monRel16 (a b n : Int) (gx nx cx : Nat) (p : S35) (i : Nat) (v : Value) (X : World) : Prop := match i with
  | 0 => v = .agg #[.int .i64 a, .int .i64 b, .int .i64 n]
  | 1 => v = .slice (some ⟨gx, 0, none⟩) nx cx
  | 2 => v = .agg #[.int .i64 p.f0, .int .i64 p.f1, .string p.f2]
  | 3 => v = .agg #[.int .i64 p.f0, .int .i64 p.f1, .string p.f2]
  | 4 => v = .bool true
  | 5 => v = .bool true
  | 6 => v = .bool true
  | 7 => v = .bool true
  | 8 => v = .bool true
  | _ => True
theorem monRel16.stable (a b n : Int) (gx nx cx : Nat) (p : S35) : ∀ i v X Y, Below X.heap.size X Y → monRel16 a b n gx nx cx p i v X → monRel16 a b n gx nx cx p i v Y := by
  intro i v X Y hb h
  match i, h with
  | 0, h => exact h
  | 1, h => exact h
  | 2, h => exact h
  | 3, h => exact h
  | 4, h => exact h
  | 5, h => exact h
  | 6, h => exact h
  | 7, h => exact h
  | 8, h => exact h
  | i + 9, _ => exact trivial
def monRel13 (gx nx cx gy ny cy m : Nat) (xs ys : List S35) (c d : Int) (p q : S35) (i : Nat) (v : Value) (X : World) : Prop := match i with
  | 0 => v = .slice (some ⟨gx, 0, none⟩) nx cx
  | 1 => v = .int .i64 (m : Int)
  | 2 => v = .pointer (some ⟨gx, m * 3, none⟩)
  | 3 => v = .agg #[.int .i64 (rd_T35 xs (m : Int)).f0, .int .i64 (rd_T35 xs (m : Int)).f1, .string (rd_T35 xs (m : Int)).f2]
  | 4 => v = .slice (some ⟨gy, 0, none⟩) ny cy
  | 5 => v = .int .i64 (m : Int)
  | 6 => v = .pointer (some ⟨gy, m * 3, none⟩)
  | 7 => v = .agg #[.int .i64 (rd_T35 ys (m : Int)).f0, .int .i64 (rd_T35 ys (m : Int)).f1, .string (rd_T35 ys (m : Int)).f2]
  | 8 => v = .int .i64 c
  | 9 => v = .bool (decide (c ≤ 0))
  | 10 => v = .bool (decide (c ≤ 0))
  | 11 => (c ≤ 0 → v = .agg #[.int .i64 p.f0, .int .i64 p.f1, .string p.f2])
  | 12 => (c ≤ 0 → v = .agg #[.int .i64 q.f0, .int .i64 q.f1, .string q.f2])
  | 13 => (c ≤ 0 → v = .int .i64 d)
  | 14 => (c ≤ 0 → v = .bool false)
  | 15 => v = .bool false
  | _ => True
theorem monRel13.stable (gx nx cx gy ny cy m : Nat) (xs ys : List S35) (c d : Int) (p q : S35) : ∀ i v X Y, Below X.heap.size X Y → monRel13 gx nx cx gy ny cy m xs ys c d p q i v X → monRel13 gx nx cx gy ny cy m xs ys c d p q i v Y := by
  intro i v X Y hb h
  match i, h with
  | 0, h => exact h
  | 1, h => exact h
  | 2, h => exact h
  | 3, h => exact h
  | 4, h => exact h
  | 5, h => exact h
  | 6, h => exact h
  | 7, h => exact h
  | 8, h => exact h
  | 9, h => exact h
  | 10, h => exact h
  | 11, h => exact h
  | 12, h => exact h
  | 13, h => exact h
  | 14, h => exact h
  | 15, h => exact h
  | i + 16, _ => exact trivial
def monRel6 (N b5 : Nat) (AT : Option Addr) (nT cT : Nat) (A1 : Option Addr) (n1 c1 : Nat) (A2 : Option Addr) (n2 c2 : Nat) (xs ys : List S35) (i : Nat) (v : Value) (X : World) : Prop := match i with
  | 0 => v = .slice AT nT cT
  | 1 => v = .pointer (some ⟨b5, 0, none⟩)
  | 2 => v = .slice A1 n1 c1
  | 3 => OwnV N xs v X
  | 4 => v = .slice AT nT cT
  | 5 => v = .pointer (some ⟨b5, 1, none⟩)
  | 6 => v = .slice A2 n2 c2
  | 7 => OwnV N ys v X
  | 8 => OwnV N xs v X
  | 9 => OwnV N ys v X
  | _ => True
theorem monRel6.stable (N b5 : Nat) (AT : Option Addr) (nT cT : Nat) (A1 : Option Addr) (n1 c1 : Nat) (A2 : Option Addr) (n2 c2 : Nat) (xs ys : List S35) : ∀ i v X Y, Below X.heap.size X Y → monRel6 N b5 AT nT cT A1 n1 c1 A2 n2 c2 xs ys i v X → monRel6 N b5 AT nT cT A1 n1 c1 A2 n2 c2 xs ys i v Y := by
  intro i v X Y hb h
  match i, h with
  | 0, h => exact h
  | 1, h => exact h
  | 2, h => exact h
  | 3, h => exact OwnV.below h hb
  | 4, h => exact h
  | 5, h => exact h
  | 6, h => exact h
  | 7, h => exact OwnV.below h hb
  | 8, h => exact OwnV.below h hb
  | 9, h => exact OwnV.below h hb
  | i + 10, _ => exact trivial
def monRel7 (M : Nat) (a b n : Int) (Ax : Option Addr) (nx cx : Nat) (Ay : Option Addr) (ny cy : Nat) (p q : S35) (i : Nat) (v : Value) (X : World) : Prop := match i with
  | 0 => v = .agg #[.int .i64 a, .int .i64 b, .int .i64 n]
  | 1 => v = .slice Ax nx cx
  | 2 => v = .agg #[.int .i64 p.f0, .int .i64 p.f1, .string p.f2]
  | 3 => v = .agg #[.int .i64 a, .int .i64 b, .int .i64 n]
  | 4 => v = .slice Ay ny cy
  | 5 => v = .agg #[.int .i64 q.f0, .int .i64 q.f1, .string q.f2]
  | 6 => AtBlk M 35 zero35 v X
  | 7 => AtBlk M 35 zero35 v X
  | _ => True
theorem monRel7.stable (M : Nat) (a b n : Int) (Ax : Option Addr) (nx cx : Nat) (Ay : Option Addr) (ny cy : Nat) (p q : S35) : ∀ i v X Y, Below X.heap.size X Y → monRel7 M a b n Ax nx cx Ay ny cy p q i v X → monRel7 M a b n Ax nx cx Ay ny cy p q i v Y := by
  intro i v X Y hb h
  match i, h with
  | 0, h => exact h
  | 1, h => exact h
  | 2, h => exact h
  | 3, h => exact h
  | 4, h => exact h
  | 5, h => exact h
  | 6, h => exact AtBlk.below h hb
  | 7, h => exact AtBlk.below h hb
  | i + 8, _ => exact trivial
set_option maxRecDepth 100000 in
set_option maxHeartbeats 8000000 in
theorem chapmanlaw32_PartitionMonotone.calls (A0 : Option Addr) (c0 : Nat) (l0 : List Int) (b0 b1 b2 : Int) (A1 : Option Addr) (c1 : Nat) (l1 : List Int) (A2 : Option Addr) (c2 : Nat) (l2 : List Int) (w : World) (hG : Laid w)
    (hr0 : Kd.C (Kd.int .u8) w A0 l0.length l0) (hc0 : l0.length ≤ c0) (hr1 : Kd.C (Kd.int .u8) w A1 l1.length l1) (hc1 : l1.length ≤ c1) (hr2 : Kd.C (Kd.int .u8) w A2 l2.length l2) (hc2 : l2.length ≤ c2)
    (hb0 : 0 ≤ b0 ∧ b0 < 256) (hb1 : 0 ≤ b1 ∧ b1 < 256) (hb2 : 0 ≤ b2 ∧ b2 < 256) (hl1 : ∀ x ∈ l1, 0 ≤ x ∧ x < 256) (hl2 : ∀ x ∈ l2, 0 ≤ x ∧ x < 256)
    (T : List S63) (hT : chapmanref11_Types.f 100 l0 = some T) (hTl : T.length ≤ 1000) (a b n : Int) (hs : chapmanref32_Made.f T b0 b1 b2 = ⟨a, b, n⟩) (xs ys : List S35) (hxs : RowOf 100 T l1 xs) (hys : RowOf 100 T l2 ys)
    (p q : S35) (hp : partition_Of.f 100 a b n xs = some (p.f0, p.f1, p.f2)) (hq : partition_Of.f 100 a b n ys = some (q.f0, q.f1, q.f2))
    (hv : partition_Valid.f T a b n = some true) (hpp : partition_Possible.f 100 T a b n p.f0 p.f1 p.f2 = some true) (hpq : partition_Possible.f 100 T a b n q.f0 q.f1 q.f2 = some true)
    (hk : a = 1 ∨ a = 3 → ∃ m : Nat, b = (m : Int) ∧ m < T.length ∧ ∃ c, chapmanref06_Cmp.f 100 (rd_T35 xs m).f0 (rd_T35 xs m).f1 (rd_T35 xs m).f2 (rd_T35 ys m).f0 (rd_T35 ys m).f1 (rd_T35 ys m).f2 = some c ∧ (∃ d, (c ≤ 0 → d ≤ 0) ∧ chapmanref06_Cmp.f 100 p.f0 p.f1 p.f2 q.f0 q.f1 q.f2 = some d) ∧ partition_Of.f 100 a b n (xs.set m p) = some (p.f0, p.f1, p.f2)) :
    Calls Tryz.prog 4 #[.slice A0 l0.length c0, .agg #[.int .u8 b0, .int .u8 b1, .int .u8 b2], .agg #[.slice A1 l1.length c1, .slice A2 l2.length c2]] w fun e w' => e = .returned (.bool true) ∧ Below w.heap.size w w' := by
  have hu27 := Tryz.underlying27
  have hu29 := Tryz.underlying29
  have hu23 := Tryz.underlying23
  have hu22 := Tryz.underlying22
  have hu25 := Tryz.underlying25
  have hu63 := Tryz.underlying63
  have hu35 := Tryz.underlying35
  have hu28 := Tryz.underlying28
  have HGl := Lib.hid hG
  have HR0 := Lib.hid hr0
  have HR1 := Lib.hid hr1
  have HR2 := Lib.hid hr2
  have HL1 := Lib.hid hl1
  have HL2 := Lib.hid hl2
  have HT := Lib.hid hT
  have HTL : RowKit.Hid (T.length ≤ 100000) := Lib.hid (by omega)
  have HTM : RowKit.Hid (T.length ≤ 1000000) := Lib.hid (by omega)
  have HS := Lib.hid hs
  have HXS := Lib.hid hxs
  have HYS := Lib.hid hys
  have HP := Lib.hid hp
  have HQ := Lib.hid hq
  have HV := Lib.hid hv
  have HPP := Lib.hid hpp
  have HPQ := Lib.hid hpq
  have HK := Lib.hid hk
  have HB0 := Lib.hid hb0
  have HB1 := Lib.hid hb1
  have HB2 := Lib.hid hb2
  have HLX : RowKit.Hid (xs.length = T.length) := Lib.hid hxs.1
  have HLY : RowKit.Hid (ys.length = T.length) := Lib.hid hys.1
  clear hG hr0 hr1 hr2 hl1 hl2 hT hTl hs hxs hys hp hq hv hpp hpq hk hb0 hb1 hb2
  go_enter Tryz.func4, Tryz.ntmps4
  go_wp2_with fail
  have E0 := blk_alloc (heap_alloc_new w (.cells #[.int .u8 b0, .int .u8 b1, .int .u8 b2] 29)) (.cells #[.slice A1 l1.length c1, .slice A2 l2.length c2] 23)
  have E1 := heap_alloc_new (w.alloc (.cells #[.int .u8 b0, .int .u8 b1, .int .u8 b2] 29)) (.cells #[.slice A1 l1.length c1, .slice A2 l2.length c2] 23)
  have hB := below_alloc (below_alloc (Below.refl w.heap.size w) (.cells #[.int .u8 b0, .int .u8 b1, .int .u8 b2] 29)) (.cells #[.slice A1 l1.length c1, .slice A2 l2.length c2] 23)
  simp only [World.size_alloc] at E1
  generalize (w.alloc (.cells #[.int .u8 b0, .int .u8 b1, .int .u8 b2] 29)).alloc (.cells #[.slice A1 l1.length c1, .slice A2 l2.length c2] 23) = W at *
  refine (chapmanlaw32_examples.calls W (HGl.out.below hB)).mono ?_
  rintro e w1 ⟨rfl, hb⟩
  have HB := Lib.hid (below_step hB hb)
  replace E0 := blk_below E0 hb
  replace E1 := blk_below E1 hb
  have HE0 := Lib.hid E0
  have HE1 := Lib.hid E1
  clear hb hB E0 E1 W
  go_wp2_with fail
  refine (chapmanref11_Types.calls 100 A0 c0 l0 T w1 (Kd.C_below HR0.out HB.out) hc0 HT.out).mono ?_
  rintro e w2 ⟨v0, rfl, hR, hb⟩
  have hV : Kd.V k63 63 w2 w2.heap.size (fun _ => True) v0 T := Kd.R_V hR
  obtain ⟨AT, cT, rfl⟩ := Kd.V_slice hV
  obtain ⟨_, hcT, hCT⟩ := Kd.V_reads' hV
  replace HB := Lib.hid (below_step HB.out hb)
  have E0 := blk_below HE0.out hb
  have HA := Lib.hid (show MonA A1 c1 l1 A2 c2 l2 AT T (w.heap.size + 1) w2 from ⟨HGl.out.below HB.out, hCT, Kd.C_below HR1.out HB.out, Kd.C_below HR2.out HB.out, blk_below HE1.out hb⟩)
  have u0 : w2.cell? ⟨w.heap.size, 0, none⟩ = some (.int .u8 b0) := (blk_cell E0 0).trans rfl
  have u1 : w2.cell? ⟨w.heap.size, 1, none⟩ = some (.int .u8 b1) := (blk_cell E0 1).trans rfl
  have u2 : w2.cell? ⟨w.heap.size, 2, none⟩ = some (.int .u8 b2) := (blk_cell E0 2).trans rfl
  clear hb hR hV hCT HE0 HE1 E0 HR0 HR1 HR2 HT HGl w1
  go_wp2_with fail
  have hm := chapmanref32_Made.calls AT cT T b0 b1 b2 w2 HA.out.2.1 HTM.out HB0.out HB1.out HB2.out
  rw [HS.out] at hm
  refine hm.mono ?_
  rintro e w3 ⟨rfl, hb⟩
  replace HA := Lib.hid ((HA.out.below hb).below (below_alloc (Below.refl w3.heap.size w3) (.cells #[.int .i64 a, .int .i64 b, .int .i64 n] 27)))
  have HE9 := Lib.hid (heap_alloc_new w3 (.cells #[.int .i64 a, .int .i64 b, .int .i64 n] 27))
  replace HB := Lib.hid (below_alloc (below_step HB.out hb) (.cells #[.int .i64 a, .int .i64 b, .int .i64 n] 27))
  clear hb hm u0 u1 u2 HS HB0 HB1 HB2
  simp only [v27]
  go_wp2_with fail
  generalize w3.alloc (.cells #[.int .i64 a, .int .i64 b, .int .i64 n] 27) = W at *
  generalize w3.heap.size = b9 at *
  have HWW := Lib.hid HB.out.size
  clear w3 w2
  refine wp_region_rel 10 94 (monRel6 W.heap.size (w.heap.size + 1) AT T.length cT A1 l1.length c1 A2 l2.length c2 xs ys) noApart (by kernel_rfl) (by kernel_rfl) (by rfl) (monRel6.stable _ _ _ _ _ _ _ _ _ _ _ _ _) ?_ ?_
  · intro vals X hX
    have hHX := HA.out.below hX
    have HX := Lib.hid hHX
    have HN := Lib.hid hX.size
    have v0 : X.cell? ⟨w.heap.size + 1, 0, none⟩ = some (.slice A1 l1.length c1) := (blk_cell hHX.2.2.2.2 0).trans rfl
    have v1 : X.cell? ⟨w.heap.size + 1, 1, none⟩ = some (.slice A2 l2.length c2) := (blk_cell hHX.2.2.2.2 1).trans rfl
    clear hX hHX HB HA HE9
    simp only [putAll, Act.put, RelSteps, List.take_succ_cons, List.take_zero, List.setIfInBounds_toArray, List.set_cons_succ, List.set_cons_zero, Option.getD_some, Nat.zero_add, Nat.reduceAdd]
    refine ⟨fun hd => ?_, fun hd => ?_, fun hd => ?_, fun hd => ?_, fun hd => ?_, fun hd => ?_, fun hd => ?_, fun hd => ?_, fun hd => ?_, fun hd => ?_, trivial⟩
    · clear hd
      go_wp2_with fail
      exact rel_done rfl _ rfl (by first | rfl | exact e0 | (simp [*]; done)) noApart_all (Below.refl _ _)
    · clear hd
      go_wp2_with fail
      exact rel_done rfl _ rfl rfl noApart_all (Below.refl _ _)
    · have e1 : vals 1 = _ := hd 1 (by kernel_rfl)
      clear hd
      go_wp2_with fail
      exact rel_done rfl _ rfl rfl noApart_all (Below.refl _ _)
    · have e0 : vals 0 = _ := hd 0 (by kernel_rfl)
      have e2 : vals 2 = _ := hd 2 (by kernel_rfl)
      clear hd
      go_wp2_with fail
      refine (chapmanref11_Row.calls 100 AT cT T A1 c1 l1 xs _ HX.out.2.1 HTL.out HX.out.2.2.1 hc1 HL1.out HXS.out).mono ?_
      rintro e w2 ⟨v, rfl, ho, hb⟩
      go_wp2_with fail
      exact rel_done rfl _ rfl (own_less ho HN.out) noApart_all hb
    · clear hd
      go_wp2_with fail
      exact rel_done rfl _ rfl (by first | rfl | exact e0 | (simp [*]; done)) noApart_all (Below.refl _ _)
    · clear hd
      go_wp2_with fail
      exact rel_done rfl _ rfl rfl noApart_all (Below.refl _ _)
    · have e5 : vals 5 = _ := hd 5 (by kernel_rfl)
      clear hd
      go_wp2_with fail
      exact rel_done rfl _ rfl rfl noApart_all (Below.refl _ _)
    · have r3 := hd 3 (by kernel_rfl)
      have e4 : vals 4 = _ := hd 4 (by kernel_rfl)
      have e6 : vals 6 = _ := hd 6 (by kernel_rfl)
      clear hd
      skip
      go_wp2_with fail
      refine (chapmanref11_Row.calls 100 AT cT T A2 c2 l2 ys _ HX.out.2.1 HTL.out HX.out.2.2.2.1 hc2 HL2.out HYS.out).mono ?_
      rintro e w2 ⟨v, rfl, ho, hb⟩
      go_wp2_with fail
      exact rel_done rfl _ rfl (own_less ho HN.out) noApart_all hb
    · have r3 := hd 3 (by kernel_rfl)
      have r7 := hd 7 (by kernel_rfl)
      clear hd
      skip
      skip
      go_wp2_with fail
      exact rel_done rfl _ rfl r3 noApart_all (Below.refl _ _)
    · have r7 := hd 7 (by kernel_rfl)
      have r8 := hd 8 (by kernel_rfl)
      clear hd
      skip
      skip
      go_wp2_with fail
      exact rel_done rfl _ rfl r7 noApart_all (Below.refl _ _)
  · intro vals X hX hv _
    have e8 := hv 8 (by decide)
    have e9 := hv 9 (by decide)
    replace e8 : OwnV W.heap.size xs (vals 8) X := e8
    replace e9 : OwnV W.heap.size ys (vals 9) X := e9
    obtain ⟨Ax, cx, q8, hcx, hCX⟩ := row_reads e8
    obtain ⟨Ay, cy, q9, hcy, hCY⟩ := row_reads e9
    rw [q8] at e8
    rw [q9] at e9
    have HMB := Lib.hid (show MonB W.heap.size AT T b9 a b n (.slice Ax xs.length cx) (.slice Ay ys.length cy) xs ys X from ⟨(HA.out.below hX).1, (HA.out.below hX).2.1, blk_below HE9.out hX, e8, e9⟩)
    have HCX := Lib.hid hCX
    have HCY := Lib.hid hCY
    replace HB := Lib.hid (below_step HB.out hX)
    clear hv hX HA HE9 e8 e9 hCX hCY HXS HYS HL1 HL2
    simp only [putAll, Act.put, List.take_succ_cons, List.take_zero, List.drop_succ_cons, List.drop_zero, List.setIfInBounds_toArray, List.set_cons_succ, List.set_cons_zero, Option.getD_some, Nat.zero_add, Nat.reduceAdd]
    simp only [q8, q9]
    clear q8 q9
    go_wp2_with fail
    refine wp_region_rel 8 94 (monRel7 X.heap.size a b n Ax xs.length cx Ay ys.length cy p q) (apart2 6 7) (by kernel_rfl) (by kernel_rfl) (by rfl) (monRel7.stable _ _ _ _ _ _ _ _ _ _ _ _) ?_ ?_
    · intro vals X' hX
      have hHX := HMB.out.below hX
      obtain ⟨c0', c1', c2'⟩ := hHX.spec
      have HN := Lib.hid hX.size
      have HBX := Lib.hid hX
      clear hX hHX HB HMB
      simp only [putAll, Act.put, RelSteps, List.take_succ_cons, List.take_zero, List.setIfInBounds_toArray, List.set_cons_succ, List.set_cons_zero, Option.getD_some, Nat.zero_add, Nat.reduceAdd]
      refine ⟨fun hd => ?_, fun hd => ?_, fun hd => ?_, fun hd => ?_, fun hd => ?_, fun hd => ?_, fun hd => ?_, fun hd => ?_, trivial⟩
      · clear hd
        go_wp2_with fail
        exact rel_done rfl _ rfl rfl (apart2_none (by decide) (by decide)) (Below.refl _ _)
      · clear hd
        go_wp2_with fail
        exact rel_done rfl _ rfl (by first | rfl | exact e0 | (simp [*]; done)) (apart2_none (by decide) (by decide)) (Below.refl _ _)
      · have e0 : vals 0 = _ := hd 0 (by kernel_rfl)
        have e1 : vals 1 = _ := hd 1 (by kernel_rfl)
        clear hd
        go_wp2_with fail
        refine (partition_Of.calls 100 a b n Ax cx xs p.f0 p.f1 p.f2 _ (Kd.C_below HCX.out HBX.out) hcx HP.out).mono ?_
        rintro e w2 ⟨rfl, hb⟩
        go_wp2_with fail
        exact rel_done rfl _ rfl rfl (apart2_none (by decide) (by decide)) hb
      · clear hd
        go_wp2_with fail
        exact rel_done rfl _ rfl rfl (apart2_none (by decide) (by decide)) (Below.refl _ _)
      · clear hd
        go_wp2_with fail
        exact rel_done rfl _ rfl (by first | rfl | exact e0 | (simp [*]; done)) (apart2_none (by decide) (by decide)) (Below.refl _ _)
      · have e2 : vals 2 = _ := hd 2 (by kernel_rfl)
        have e3 : vals 3 = _ := hd 3 (by kernel_rfl)
        have e4 : vals 4 = _ := hd 4 (by kernel_rfl)
        clear hd
        go_wp2_with fail
        refine (partition_Of.calls 100 a b n Ay cy ys q.f0 q.f1 q.f2 _ (Kd.C_below HCY.out HBX.out) hcy HQ.out).mono ?_
        rintro e w2 ⟨rfl, hb⟩
        go_wp2_with fail
        exact rel_done rfl _ rfl rfl (apart2_none (by decide) (by decide)) hb
      · clear hd
        go_wp2_with fail
        exact rel_done rfl _ rfl ⟨_, rfl, HN.out, heap_alloc_new _ _⟩ (apart2_new (by decide) X.heap.size 35 zero35 (fun j u hj h => by rcases hj with rfl | rfl <;> exact h)) (below_alloc (Below.refl _ _) _)
      · clear hd
        go_wp2_with fail
        exact rel_done rfl _ rfl ⟨_, rfl, HN.out, heap_alloc_new _ _⟩ (apart2_new (by decide) X.heap.size 35 zero35 (fun j u hj h => by rcases hj with rfl | rfl <;> exact h)) (below_alloc (Below.refl _ _) _)
    · intro vals X' hX hv hapart
      have e2 : vals 2 = _ := hv 2 (by decide)
      have e5 : vals 5 = _ := hv 5 (by decide)
      obtain ⟨a12, e6, s6, h6⟩ := hv 6 (by decide)
      obtain ⟨a13, e7, s7, h7⟩ := hv 7 (by decide)
      have hne : a12 ≠ a13 := fun e => (hapart 6 7 (by decide) (by decide) (by decide)).1 rfl rfl (by rw [e6, e7, e])
      have hne' : a13 ≠ a12 := fun e => hne e.symm
      obtain ⟨m0, m1, m2⟩ := cell35 (p := z35) h6
      obtain ⟨m3, m4, m5⟩ := cell35 (p := z35) h7
      simp only [z35] at m0 m1 m2 m3 m4 m5
      have f0 := blk_frozen h6 0
      have f1 := blk_frozen h6 1
      have f2 := blk_frozen h6 2
      have f3 := blk_frozen h7 0
      have f4 := blk_frozen h7 1
      have f5 := blk_frozen h7 2
      have HTW := Lib.hid (two35 (p := p) (q := q) hX s6 s7 hne h6 h7)
      obtain ⟨k0, k1, k2⟩ := (HMB.out.below HTW.out.1).spec
      simp only [put35] at k0 k1 k2
      have HA12 := Lib.hid (fun (gx : Nat) (e : Ax = some ⟨gx, 0, none⟩) => show a12 ≠ gx from fun e' => by have := OwnV.lt (e ▸ HMB.out.2.2.2.1); omega)
      clear hv hapart h6 h7 hX s6 s7
      simp only [putAll, Act.put, List.take_succ_cons, List.take_zero, List.drop_succ_cons, List.drop_zero, List.setIfInBounds_toArray, List.set_cons_succ, List.set_cons_zero, Option.getD_some, Nat.zero_add, Nat.reduceAdd]
      simp only [e2, e5, e6, e7]
      go_wp2_with fail
      clear m0 m1 m2 m3 m4 m5 f0 f1 f2 f3 f4 f5 hne hne' e2 e5 e6 e7
      obtain ⟨hXY, h12, h13⟩ := HTW.out
      clear k0 k1 k2
      have HMC := Lib.hid (show MonC W.heap.size AT T b9 a b n (.slice Ax xs.length cx) (.slice Ay ys.length cy) xs ys a12 a13 p q _ from ⟨HMB.out.below hXY, h12, h13⟩)
      replace HB := Lib.hid (below_step HB.out hXY)
      simp only [put35] at HMC HB
      clear hXY h12 h13 HTW HMB HCX HCY
      generalize (((((X'.setCell ⟨a12, 0, none⟩ (.int .i64 p.f0)).setCell ⟨a12, 1, none⟩ (.int .i64 p.f1)).setCell ⟨a12, 2, none⟩ (.string p.f2)).setCell ⟨a13, 0, none⟩ (.int .i64 q.f0)).setCell ⟨a13, 1, none⟩ (.int .i64 q.f1)).setCell ⟨a13, 2, none⟩ (.string q.f2) = Y at *
      refine (partition_Valid.calls AT cT T a b n true _ HMC.out.1.2.1 hcT HV.out).mono ?_
      rintro e w4 ⟨rfl, hb⟩
      replace HMC := Lib.hid (HMC.out.below hb)
      replace HB := Lib.hid (below_step HB.out hb)
      obtain ⟨k0, k1, k2⟩ := HMC.out.1.spec
      obtain ⟨m0, m1, m2⟩ := cell35 HMC.out.2.1
      clear hb Y
      go_wp2_with fail
      refine (partition_Possible.calls 100 AT cT T a b n p.f0 p.f1 p.f2 true _ HMC.out.1.2.1 hcT HMC.out.1.1 HPP.out).mono ?_
      rintro e w5 ⟨rfl, hb⟩
      clear k0 k1 k2 m0 m1 m2
      replace HMC := Lib.hid (HMC.out.below hb)
      replace HB := Lib.hid (below_step HB.out hb)
      obtain ⟨k0, k1, k2⟩ := HMC.out.1.spec
      obtain ⟨m0, m1, m2⟩ := cell35 HMC.out.2.2
      clear hb w4
      go_wp2_with fail
      refine (partition_Possible.calls 100 AT cT T a b n q.f0 q.f1 q.f2 true _ HMC.out.1.2.1 hcT HMC.out.1.1 HPQ.out).mono ?_
      rintro e w6 ⟨rfl, hb⟩
      clear k0 k1 k2 m0 m1 m2
      replace HMC := Lib.hid (HMC.out.below hb)
      replace HB := Lib.hid (below_step HB.out hb)
      obtain ⟨k0, k1, k2⟩ := HMC.out.1.spec
      clear hb w5
      by_cases ha : a = 1 ∨ a = 3
      · obtain ⟨m, rfl, hm, c, hc, ⟨d, hcd, hd⟩, hox⟩ := HK.out ha
        have HC := Lib.hid hc
        have HD := Lib.hid hd
        have HOX := Lib.hid hox
        have HCD := Lib.hid hcd
        have hn1 : 0 < xs.length := by rw [HLX.out]; omega
        have hn2 : 0 < ys.length := by rw [HLY.out]; omega
        obtain ⟨gx, rfl, hgx⟩ := HMC.out.1.2.2.2.1.at0 hn1
        obtain ⟨gy, rfl, hgy⟩ := HMC.out.1.2.2.2.2.at0 hn2
        have hmx : m < xs.length := by rw [HLX.out]; exact hm
        have hmy : m < ys.length := by rw [HLY.out]; exact hm
        have HGX := Lib.hid (Nat.le_trans HWW.out hgx)
        have HNA := Lib.hid (HA12.out gx rfl)
        clear HA12
        clear hc hd hox hcd hn1 hn2 HK hgx hgy
        have hcase : ((a != 1) = false ∧ (a == 1) = true) ∨ ((a != 1) = true ∧ (a == 1) = false ∧ (a != 3) = false ∧ (a == 3) = true) := by rcases ha with rfl | rfl <;> decide
        clear ha
        rcases hcase with ⟨n1, n2⟩ | ⟨n1, n2, n3, n4⟩
        all_goals
          go_wp2_with fail
          refine wp_region_rel 16 94 (monRel13 gx xs.length cx gy ys.length cy m xs ys c d p q) noApart (by kernel_rfl) (by kernel_rfl) (by rfl) (monRel13.stable _ _ _ _ _ _ _ _ _ _ _ _ _) ?_ ?_
          · intro vals X'' hX
            have hHX := HMC.out.below hX
            obtain ⟨m0, m1, m2⟩ := cell35 hHX.2.1
            obtain ⟨m3, m4, m5⟩ := cell35 hHX.2.2
            obtain ⟨x0, x1, x2⟩ := own35 hHX.1.2.2.2.1 hmx
            obtain ⟨y0, y1, y2⟩ := own35 hHX.1.2.2.2.2 hmy
            clear hX hHX HB HMC
            simp only [putAll, Act.put, RelSteps, List.take_succ_cons, List.take_zero, List.setIfInBounds_toArray, List.set_cons_succ, List.set_cons_zero, Option.getD_some, Nat.zero_add, Nat.reduceAdd]
            refine ⟨fun hd => ?_, fun hd => ?_, fun hd => ?_, fun hd => ?_, fun hd => ?_, fun hd => ?_, fun hd => ?_, fun hd => ?_, fun hd => ?_, fun hd => ?_, fun hd => ?_, fun hd => ?_, fun hd => ?_, fun hd => ?_, fun hd => ?_, fun hd => ?_, trivial⟩
            · clear hd
              go_wp2_with fail
              exact rel_done rfl _ rfl (by first | rfl | exact e0 | (simp [*]; done)) noApart_all (Below.refl _ _)
            · clear hd
              go_wp2_with fail
              exact rel_done rfl _ rfl (by first | rfl | exact e0 | (simp [*]; done)) noApart_all (Below.refl _ _)
            · have e0 : vals 0 = _ := hd 0 (by kernel_rfl)
              have e1 : vals 1 = _ := hd 1 (by kernel_rfl)
              clear hd
              go_wp2_with fail
              exact rel_done rfl _ rfl rfl noApart_all (Below.refl _ _)
            · have e2 : vals 2 = _ := hd 2 (by kernel_rfl)
              clear hd
              go_wp2_with fail
              exact rel_done rfl _ rfl rfl noApart_all (Below.refl _ _)
            · clear hd
              go_wp2_with fail
              exact rel_done rfl _ rfl (by first | rfl | exact e0 | (simp [*]; done)) noApart_all (Below.refl _ _)
            · clear hd
              go_wp2_with fail
              exact rel_done rfl _ rfl (by first | rfl | exact e0 | (simp [*]; done)) noApart_all (Below.refl _ _)
            · have e4 : vals 4 = _ := hd 4 (by kernel_rfl)
              have e5 : vals 5 = _ := hd 5 (by kernel_rfl)
              clear hd
              go_wp2_with fail
              exact rel_done rfl _ rfl rfl noApart_all (Below.refl _ _)
            · have e6 : vals 6 = _ := hd 6 (by kernel_rfl)
              clear hd
              go_wp2_with fail
              exact rel_done rfl _ rfl rfl noApart_all (Below.refl _ _)
            · have e3 : vals 3 = _ := hd 3 (by kernel_rfl)
              have e7 : vals 7 = _ := hd 7 (by kernel_rfl)
              clear hd
              go_wp2_with fail
              refine (chapmanref06_Cmp.calls 100 _ _ _ _ _ _ c _ HC.out).mono ?_
              rintro e w2 ⟨rfl, hb⟩
              go_wp2_with fail
              exact rel_done rfl _ rfl rfl noApart_all hb
            · have e8 : vals 8 = _ := hd 8 (by kernel_rfl)
              clear hd
              go_wp2_with fail
              exact rel_done rfl _ rfl rfl noApart_all (Below.refl _ _)
            · have e8 : vals 8 = _ := hd 8 (by kernel_rfl)
              have e9 : vals 9 = _ := hd 9 (by kernel_rfl)
              clear hd
              go_wp2_with fail
              exact rel_done rfl _ rfl (by first | rfl | exact e9 | (simp [*]; done)) noApart_all (Below.refl _ _)
            · have e10 : vals 10 = _ := hd 10 (by kernel_rfl)
              clear hd
              by_cases hz : c ≤ 0
              · have hz' : decide (c ≤ 0) = true := decide_eq_true hz
                rw [hz'] at e10
                go_wp2_with fail
                exact rel_done rfl _ rfl (fun _ => rfl) noApart_all (Below.refl _ _)
              · have hz' : decide (c ≤ 0) = false := decide_eq_false hz
                rw [hz'] at e10
                go_wp2_with fail
                exact rel_done rfl _ rfl (fun h => absurd h (by omega)) noApart_all (Below.refl _ _)
            · have e10 : vals 10 = _ := hd 10 (by kernel_rfl)
              clear hd
              by_cases hz : c ≤ 0
              · have hz' : decide (c ≤ 0) = true := decide_eq_true hz
                rw [hz'] at e10
                go_wp2_with fail
                exact rel_done rfl _ rfl (fun _ => rfl) noApart_all (Below.refl _ _)
              · have hz' : decide (c ≤ 0) = false := decide_eq_false hz
                rw [hz'] at e10
                go_wp2_with fail
                exact rel_done rfl _ rfl (fun h => absurd h (by omega)) noApart_all (Below.refl _ _)
            · have e10 : vals 10 = _ := hd 10 (by kernel_rfl)
              have r11 := hd 11 (by kernel_rfl)
              have r12 := hd 12 (by kernel_rfl)
              clear hd
              skip
              skip
              by_cases hz : c ≤ 0
              · have hz' : decide (c ≤ 0) = true := decide_eq_true hz
                rw [hz'] at e10
                have e11 := r11 hz
                have e12 := r12 hz
                go_wp2_with fail
                refine (chapmanref06_Cmp.calls 100 _ _ _ _ _ _ d _ HD.out).mono ?_
                rintro e w2 ⟨rfl, hb⟩
                go_wp2_with fail
                exact rel_done rfl _ rfl (fun _ => rfl) noApart_all hb
              · have hz' : decide (c ≤ 0) = false := decide_eq_false hz
                rw [hz'] at e10
                go_wp2_with fail
                exact rel_done rfl _ rfl (fun h => absurd h (by omega)) noApart_all (Below.refl _ _)
            · have e10 : vals 10 = _ := hd 10 (by kernel_rfl)
              have r13 := hd 13 (by kernel_rfl)
              clear hd
              skip
              by_cases hz : c ≤ 0
              · have hz' : decide (c ≤ 0) = true := decide_eq_true hz
                rw [hz'] at e10
                have e13 := r13 hz
                have hd0 : decide (d > 0) = false := by have := HCD.out hz; simp; omega
                have hd1 : decide (0 < d) = false := hd0
                go_wp2_with fail
                exact rel_done rfl _ rfl (fun _ => by simp [*]) noApart_all (Below.refl _ _)
              · have hz' : decide (c ≤ 0) = false := decide_eq_false hz
                rw [hz'] at e10
                go_wp2_with fail
                exact rel_done rfl _ rfl (fun h => absurd h (by omega)) noApart_all (Below.refl _ _)
            · have e10 : vals 10 = _ := hd 10 (by kernel_rfl)
              have r14 := hd 14 (by kernel_rfl)
              clear hd
              skip
              by_cases hz : c ≤ 0
              · have hz' : decide (c ≤ 0) = true := decide_eq_true hz
                rw [hz'] at e10
                have e14 := r14 hz
                go_wp2_with fail
                exact rel_done rfl _ rfl (by first | rfl | exact e14 | (show _ = _; simp [*])) noApart_all (Below.refl _ _)
              · have hz' : decide (c ≤ 0) = false := decide_eq_false hz
                rw [hz'] at e10
                go_wp2_with fail
                exact rel_done rfl _ rfl rfl noApart_all (Below.refl _ _)
          · intro vals X'' hX hv _
            have e15 : vals 15 = _ := hv 15 (by decide)
            replace HB := Lib.hid (below_step HB.out hX)
            have hHX := HMC.out.below hX
            replace HMC := Lib.hid hHX
            obtain ⟨k0, k1, k2⟩ := hHX.1.spec
            obtain ⟨m0, m1, m2⟩ := cell35 hHX.2.1
            obtain ⟨x0, x1, x2⟩ := own35 hHX.1.2.2.2.1 hmx
            have f0 := hHX.1.2.2.2.1.frozen (m * 3)
            have f1 := hHX.1.2.2.2.1.frozen (m * 3 + 1)
            have f2 := hHX.1.2.2.2.1.frozen (m * 3 + 2)
            obtain ⟨cur, hcur⟩ := hHX.1.2.2.2.1.blk
            have HZX := Lib.hid (hHX.1.2.2.2.1.put hmx p)
            have HZ9 := Lib.hid (putMon_far (m := m) (p := p) hHX.1.2.2.1 (blk_ne hHX.1.2.2.1 hcur (by decide)))
            have HZ12 := Lib.hid (putMon_far (m := m) (p := p) hHX.2.1 HNA.out)
            replace HB := Lib.hid (below_set (j := m * 3 + 2) (v := .string p.f2) (below_set (j := m * 3 + 1) (v := .int .i64 p.f1) (below_set (j := m * 3) (v := .int .i64 p.f0) HB.out HGX.out) HGX.out) HGX.out)
            simp only [putMon] at HZX HZ9 HZ12
            clear hv hX hHX HC HD HCD hcur HMC
            simp only [putAll, Act.put, List.take_succ_cons, List.take_zero, List.drop_succ_cons, List.drop_zero, List.setIfInBounds_toArray, List.set_cons_succ, List.set_cons_zero, Option.getD_some, Nat.zero_add, Nat.reduceAdd]
            simp only [e15]
            clear e15
            obtain ⟨z0, z1, z2⟩ := cell27 HZ9.out
            obtain ⟨z3, z4, z5⟩ := cell35 HZ12.out
            go_wp2_with fail
            clear z0 z1 z2 z3 z4 z5 k0 k1 k2 m0 m1 m2 x0 x1 x2 f0 f1 f2
            generalize ((X''.setCell ⟨gx, m * 3, none⟩ (.int .i64 p.f0)).setCell ⟨gx, m * 3 + 1, none⟩ (.int .i64 p.f1)).setCell ⟨gx, m * 3 + 2, none⟩ (.string p.f2) = Z at *
            refine wp_region_rel 9 94 (monRel16 a (m : Int) n gx xs.length cx p) noApart (by kernel_rfl) (by kernel_rfl) (by rfl) (monRel16.stable _ _ _ _ _ _ _) ?_ ?_
            · intro vals X3 hX
              replace HZX := Lib.hid (HZX.out.below hX)
              obtain ⟨z0, z1, z2⟩ := cell27 (blk_below HZ9.out hX)
              obtain ⟨z3, z4, z5⟩ := cell35 (blk_below HZ12.out hX)
              clear hX HB HZ9 HZ12
              simp only [putAll, Act.put, RelSteps, List.take_succ_cons, List.take_zero, List.setIfInBounds_toArray, List.set_cons_succ, List.set_cons_zero, Option.getD_some, Nat.zero_add, Nat.reduceAdd]
              refine ⟨fun hd => ?_, fun hd => ?_, fun hd => ?_, fun hd => ?_, fun hd => ?_, fun hd => ?_, fun hd => ?_, fun hd => ?_, fun hd => ?_, trivial⟩
              · clear hd
                go_wp2_with fail
                exact rel_done rfl _ rfl rfl noApart_all (Below.refl _ _)
              · clear hd
                go_wp2_with fail
                exact rel_done rfl _ rfl (by first | rfl | exact e0 | (simp [*]; done)) noApart_all (Below.refl _ _)
              · have e0 : vals 0 = _ := hd 0 (by kernel_rfl)
                have e1 : vals 1 = _ := hd 1 (by kernel_rfl)
                clear hd
                have hcall := partition_Of.calls 100 _ _ _ (some ⟨gx, 0, none⟩) cx (xs.set m p) p.f0 p.f1 p.f2 X3 HZX.out.reads.1 HZX.out.reads.2 HOX.out
                simp only [List.length_set] at hcall
                have HCALL := Lib.hid hcall
                clear hcall
                go_wp2_with fail
                refine HCALL.out.mono ?_
                rintro e w2 ⟨rfl, hb⟩
                go_wp2_with fail
                exact rel_done rfl _ rfl rfl noApart_all hb
              · clear hd
                go_wp2_with fail
                exact rel_done rfl _ rfl rfl noApart_all (Below.refl _ _)
              · have r2 := hd 2 (by kernel_rfl)
                have e3 : vals 3 = _ := hd 3 (by kernel_rfl)
                clear hd
                have e2 : _ = _ := r2
                go_wp2_with fail
                exact rel_done rfl _ rfl rfl noApart_all (Below.refl _ _)
              · have r2 := hd 2 (by kernel_rfl)
                have e4 : vals 4 = _ := hd 4 (by kernel_rfl)
                clear hd
                have e2 : _ = _ := r2
                go_wp2_with fail
                exact rel_done rfl _ rfl (by first | rfl | exact e4 | (simp [*]; done)) noApart_all (Below.refl _ _)
              · have e5 : vals 5 = _ := hd 5 (by kernel_rfl)
                clear hd
                go_wp2_with fail
                exact rel_done rfl _ rfl (by first | rfl | exact e5 | (simp [*]; done)) noApart_all (Below.refl _ _)
              · have e5 : vals 5 = _ := hd 5 (by kernel_rfl)
                have e6 : vals 6 = _ := hd 6 (by kernel_rfl)
                clear hd
                go_wp2_with fail
                exact rel_done rfl _ rfl rfl noApart_all (Below.refl _ _)
              · have e5 : vals 5 = _ := hd 5 (by kernel_rfl)
                have e7 : vals 7 = _ := hd 7 (by kernel_rfl)
                clear hd
                go_wp2_with fail
                exact rel_done rfl _ rfl (by first | rfl | exact e7 | (simp [*]; done)) noApart_all (Below.refl _ _)
            · intro vals X3 hX hv _
              have e8 : vals 8 = _ := hv 8 (by decide)
              have hB3 := below_step HB.out hX
              clear hv hX
              simp only [putAll, Act.put, List.take_succ_cons, List.take_zero, List.drop_succ_cons, List.drop_zero, List.setIfInBounds_toArray, List.set_cons_succ, List.set_cons_zero, Option.getD_some, Nat.zero_add, Nat.reduceAdd]
              simp only [e8]
              clear e8
              go_wp2_with fail
              go_ret
              exact ⟨rfl, hB3⟩
      · have na1 : (a == 1) = false := by simp; omega
        have na3 : (a == 3) = false := by simp; omega
        have na1' : (a != 1) = true := by simp; omega
        have na3' : (a != 3) = true := by simp; omega
        clear ha HK
        go_wp2_with fail
        go_ret
        exact ⟨rfl, HB.out⟩
end Go.Proofs.YteflfnjljjianaaGreatDoor.Qx
namespace Go.Proofs.YteflfnjljjianaaGreatDoor.Qx
open Go.RowKit Go.Proofs.YteflfnjljjianaaGreatDoorW.PrintWords Go.Proofs.YteflfnjljjianaaGreatDoorW.PrintLast Go.Proofs.YteflfnjljjianaaGreatDoorW.PrintMore
attribute [local go_sem] max2_int min2_int max_two min_two
set_option linter.unusedVariables false
set_option linter.unusedSimpArgs false
def ty7 : List S63 := [⟨2, 2, false⟩, ⟨3, 0, false⟩, ⟨1, 0, false⟩, ⟨2, 0, true⟩, ⟨3, 0, true⟩, ⟨1, 0, true⟩, ⟨2, 0, false⟩]
def tyOf (x : Int) : S63 := rd_T63 ty7 (Int.tmod x 7)
def typesOf (l : List Int) : List S63 := (l.take 6).map tyOf
def nul : S35 := ⟨0, 0, ⟨#[]⟩⟩
def vNum (s : Int) : List S35 := (List.range 40).map fun m : Nat => ⟨2, wrap64 (wrap64 (wrap64 (m : Int) - 12) * s), ⟨#[]⟩⟩
def wordL : List ByteArray := [⟨#[]⟩, ⟨#[97]⟩, ⟨#[98]⟩, ⟨#[97, 98]⟩, ⟨#[97, 32, 98]⟩, ⟨#[98, 32, 97, 32, 99]⟩, ⟨#[120, 45, 121]⟩, ⟨#[45]⟩, ⟨#[49, 50]⟩, ⟨#[45, 48, 46, 53]⟩, ⟨#[97, 34, 98]⟩, ⟨#[92]⟩, ⟨#[48]⟩, ⟨#[55, 46, 50, 53]⟩, ⟨#[97, 98, 99, 100, 101, 102, 103, 104, 105, 106, 107, 108, 109, 110, 111, 112, 113, 114, 115, 116, 117, 118, 119, 120, 121, 122, 97, 98, 99, 100, 101, 102, 103, 104, 105, 106, 107, 108, 109, 110]⟩]
def vTxt : List S35 := (List.range 15).map fun m : Nat => ⟨3, 0, rdOf ByteArray.empty wordL (m : Int)⟩
def stepS (s : Int) : Int := if s = 2 then 10000 else 1000000
def VT (t : S63) : List S35 := (if t.f2 then [nul] else []) ++ (if t.f0 = 1 then [⟨1, 0, ⟨#[]⟩⟩, ⟨1, 1, ⟨#[]⟩⟩] else if t.f0 = 2 then vNum 1000000 ++ vNum (stepS t.f1) else vTxt)
def SPl (t : S63) : List (Int × Int) := (1, 0) :: ((List.range 8).map fun i : Nat => (2, 1 + (i : Int))) ++ (if t.f0 = 1 then [] else if t.f0 = 3 then (List.range 4).map fun i : Nat => (3, 1 + (i : Int)) else (List.range 6).map fun i : Nat => (3, chapmanref32_Made.tbl (i : Int)))
def possT (t : S63) (a n : Int) (p : S35) : Option Bool :=
  if (p.f0 == 0 && (p.f1 == 0 && p.f2.toList.isEmpty)) = true then some t.f2
  else if a = 1 then partition_spec_isValue.f 100 a 0 n t.f0 t.f1 t.f2 p.f0 p.f1 p.f2 else if a = 2 then partition_spec_isBucket.f a 0 n t.f0 t.f1 t.f2 p.f0 p.f1 p.f2
  else if a = 3 then partition_spec_isTrunc.f 100 a 0 n t.f0 t.f1 t.f2 p.f0 p.f1 p.f2 else none
def ofT (a n : Int) (x : S35) : Option S35 := (partition_of.f 100 a 0 n x.f0 x.f1 x.f2).map fun r => ⟨r.1, r.2.1, r.2.2⟩
def same35 (x y : S35) : Bool := x.f0 == y.f0 && x.f1 == y.f1 && x.f2.data == y.f2.data
def ok1 (t : S63) (a n : Int) (x : S35) : Bool := match ofT a n x with
  | some p => possT t a n p == some true && (a == 2 || match ofT a n p with | some q => same35 p q | none => false)
  | none => false
def ok2 (a n : Int) (x y : S35) : Bool := match ofT a n x, ofT a n y with
  | some p, some q => match chapmanref06_Cmp.f 100 x.f0 x.f1 x.f2 y.f0 y.f1 y.f2, chapmanref06_Cmp.f 100 p.f0 p.f1 p.f2 q.f0 q.f1 q.f2 with
    | some c, some d => decide (0 < c) || decide (d ≤ 0)
    | _, _ => false
  | _, _ => false
def chk1 (t : S63) : Bool := (SPl t).all fun s => (partition_Valid.kind s.1 t s.2 == some true) && (VT t).all (ok1 t s.1 s.2)
def chk2 (t : S63) : Bool := (SPl t).all fun s => s.1 == 2 || (VT t).all fun x => (VT t).all fun y => ok2 s.1 s.2 x y
set_option maxRecDepth 1000000
theorem chk2_n2 : chk2 ⟨2, 2, false⟩ = true := by kernel_rfl
theorem chk2_n : chk2 ⟨2, 0, false⟩ = true := by kernel_rfl
theorem chk2_nn : chk2 ⟨2, 0, true⟩ = true := by kernel_rfl
theorem chk1_all : ty7.all chk1 = true := by kernel_rfl
theorem chk2_b : chk2 ⟨1, 0, false⟩ = true := by kernel_rfl
theorem chk2_bn : chk2 ⟨1, 0, true⟩ = true := by kernel_rfl
theorem chk2_t : chk2 ⟨3, 0, false⟩ = true := by kernel_rfl
theorem chk2_tn : chk2 ⟨3, 0, true⟩ = true := by kernel_rfl
theorem chk2_all {t : S63} (ht : t ∈ ty7) : chk2 t = true := by
  simp only [ty7, List.mem_cons, List.not_mem_nil, or_false] at ht
  rcases ht with rfl | rfl | rfl | rfl | rfl | rfl | rfl
  · exact chk2_n2
  · exact chk2_t
  · exact chk2_b
  · exact chk2_nn
  · exact chk2_tn
  · exact chk2_bn
  · exact chk2_n
def Byt (l : List Int) : Prop := ∀ x ∈ l, 0 ≤ x ∧ x < 256
theorem tmod_lt {x n : Int} (h : 0 ≤ x) (hn : 0 < n) : 0 ≤ Int.tmod x n ∧ Int.tmod x n < n := by
  rw [Int.tmod_eq_emod_of_nonneg h]
  exact ⟨Int.emod_nonneg _ (by omega), Int.emod_lt_of_pos _ hn⟩
theorem tyOf_mem {x : Int} (h : 0 ≤ x) : tyOf x ∈ ty7 := by
  have := tmod_lt (n := 7) h (by omega)
  unfold tyOf rd_T63
  rw [List.getD_eq_getElem?_getD, List.getElem?_eq_getElem (by simp [ty7]; omega)]
  exact List.getElem_mem _
theorem typesOf_mem {l : List Int} (hb : Byt l) {t : S63} (ht : t ∈ typesOf l) : t ∈ ty7 := by
  obtain ⟨x, hx, rfl⟩ := List.mem_map.1 ht
  exact tyOf_mem (hb x (List.mem_of_mem_take hx)).1
theorem typesOf_len (l : List Int) : (typesOf l).length ≤ 6 := by
  unfold typesOf
  rw [List.length_map]
  exact List.length_take_le _ _
theorem types_l0 (l : List Int) (hb : Byt l) : ∀ (d k i : Nat) (acc : List S63), i + d = 6 → d < k → acc.length = i → chapmanref11_Types.l0 k l acc (i : Int) = some (acc ++ ((l.take 6).drop i).map tyOf)
  | 0, k + 1, i, acc, hi, _, _ => by
    obtain rfl : i = 6 := by omega
    have e : (l.take 6).drop 6 = [] := List.drop_eq_nil_of_le (List.length_take_le _ _)
    rw [e]
    unfold chapmanref11_Types.l0
    split
    · rw [if_neg (by decide)]; simp
    · simp
  | d + 1, k + 1, i, acc, hi, hk, ha => by
    unfold chapmanref11_Types.l0
    by_cases hl : i < l.length
    · have hx := hb l[i] (List.getElem_mem _)
      have hr : rd l (i : Int) = l[i] := by simp [rd, hl]
      have hm := tmod_lt (n := 7) hx.1 (by omega)
      have hit : i < (l.take 6).length := by rw [List.length_take]; omega
      rw [if_pos (by omega), if_pos (by omega)]
      simp only [Option.bind_some, hr]
      rw [if_pos (by omega), if_pos hm.1, if_pos (by simpa using hm.2), if_pos (by omega)]
      have hw : wrap64 ((i : Int) + 1) = ((i + 1 : Nat) : Int) := by unfold wrap64; omega
      rw [hw, types_l0 l hb d k (i + 1) _ (by omega) (by omega) (by simp [ha]), List.drop_eq_getElem_cons hit, List.map_cons, List.getElem_take, List.append_assoc]
      rfl
    · have e : (l.take 6).drop i = [] := List.drop_eq_nil_of_le (by rw [List.length_take]; omega)
      rw [if_neg (by omega), e]
      simp
theorem types_f {l : List Int} (hb : Byt l) : chapmanref11_Types.f 100 l = some (typesOf l) := by
  have := types_l0 l hb 6 100 0 [] rfl (by omega) rfl
  have e : chapmanref11_Types.f 100 l = chapmanref11_Types.l0 100 l [] ((0 : Nat) : Int) := rfl
  rw [e, this]
  rfl
theorem map_mem {α : Type} {f : Nat → α} {n : Nat} {x : Int} (h0 : 0 ≤ x) (h1 : x < (n : Int)) : f x.toNat ∈ (List.range n).map f := List.mem_map.2 ⟨x.toNat, List.mem_range.2 (by omega), rfl⟩
theorem j0_num {k : Nat} (sc : Int) (tn : Bool) (b0 b1 : Int) (hs : chapmanref06_Step.f k sc = some (stepS sc)) (h : 0 ≤ b1) : ∃ v ∈ vNum 1000000 ++ vNum (stepS sc), chapmanref06_Value.j0 (k + 1) false 2 sc tn b0 b1 = some (v.f0, v.f1, v.f2) := by
  have hm := tmod_lt (n := 40) h (by omega)
  have e : ((Int.tmod b1 40).toNat : Int) = Int.tmod b1 40 := Int.toNat_of_nonneg hm.1
  simp only [chapmanref06_Value.j0]
  rw [if_neg (by decide), if_neg (by decide), if_pos trivial]
  split
  · refine ⟨_, List.mem_append_right _ (map_mem hm.1 hm.2), ?_⟩
    rw [hs, e]
    rfl
  · refine ⟨_, List.mem_append_left _ (map_mem hm.1 hm.2), ?_⟩
    rw [e]
    rfl
theorem j0_txt {k : Nat} (sc : Int) (tn : Bool) (b0 b1 : Int) (h : 0 ≤ b1 ∧ b1 < 256) : ∃ v ∈ vTxt, chapmanref06_Value.j0 (k + 1) false 3 sc tn b0 b1 = some (v.f0, v.f1, v.f2) := by
  have hm := tmod_lt (n := 15) h.1 (by omega)
  have e : ((Int.tmod b1 15).toNat : Int) = Int.tmod b1 15 := Int.toNat_of_nonneg hm.1
  have hw : wrap64 b1 = b1 := by unfold wrap64; omega
  simp only [chapmanref06_Value.j0]
  rw [if_neg (by decide), if_neg (by decide), if_neg (by decide), hw]
  refine ⟨_, map_mem hm.1 hm.2, ?_⟩
  unfold chapmanref06_words.f
  simp only [Option.bind_some]
  rw [if_pos hm.1, if_pos (by simpa using hm.2), e]
  rfl
theorem j0_bool {k : Nat} (sc : Int) (tn : Bool) (b0 b1 : Int) : ∃ v ∈ [(⟨1, 0, ⟨#[]⟩⟩ : S35), ⟨1, 1, ⟨#[]⟩⟩], chapmanref06_Value.j0 (k + 1) false 1 sc tn b0 b1 = some (v.f0, v.f1, v.f2) := by
  simp only [chapmanref06_Value.j0]
  rw [if_neg (by decide), if_pos trivial]
  cases (Int.tmod b1 2 == 1)
  · exact ⟨_, List.mem_cons_self, rfl⟩
  · exact ⟨_, List.mem_cons_of_mem _ List.mem_cons_self, rfl⟩
theorem j0_nul (f0 sc : Int) (tn : Bool) (b0 b1 : Int) : chapmanref06_Value.j0 100 true f0 sc tn b0 b1 = some (nul.f0, nul.f1, nul.f2) := rfl
theorem val_f {t : S63} (ht : t ∈ ty7) {b0 b1 : Int} (h1 : 0 ≤ b1 ∧ b1 < 256) : ∃ v ∈ VT t, chapmanref06_Value.f 100 t.f0 t.f1 t.f2 b0 b1 = some (v.f0, v.f1, v.f2) := by
  have s0 : chapmanref06_Step.f 99 0 = some (stepS 0) := by kernel_rfl
  have s2 : chapmanref06_Step.f 99 2 = some (stepS 2) := by kernel_rfl
  have key : ∀ t : S63, (∃ v ∈ (if t.f0 = 1 then [(⟨1, 0, ⟨#[]⟩⟩ : S35), ⟨1, 1, ⟨#[]⟩⟩] else if t.f0 = 2 then vNum 1000000 ++ vNum (stepS t.f1) else vTxt), chapmanref06_Value.j0 100 false t.f0 t.f1 t.f2 b0 b1 = some (v.f0, v.f1, v.f2)) → ∃ v ∈ VT t, chapmanref06_Value.f 100 t.f0 t.f1 t.f2 b0 b1 = some (v.f0, v.f1, v.f2) := by
    intro t ⟨v, hv, h⟩
    unfold chapmanref06_Value.f VT
    cases htn : t.f2
    · rw [htn] at h
      exact ⟨v, List.mem_append_right _ hv, h⟩
    · rw [htn] at h
      rw [if_pos rfl]
      cases (Int.tmod b0 5 == 0)
      · exact ⟨v, List.mem_append_right _ hv, h⟩
      · exact ⟨nul, List.mem_append_left _ (by simp), j0_nul t.f0 t.f1 true b0 b1⟩
  refine key t ?_
  simp only [ty7, List.mem_cons, List.not_mem_nil, or_false] at ht
  rcases ht with rfl | rfl | rfl | rfl | rfl | rfl | rfl
  · exact j0_num (k := 99) 2 _ _ _ s2 h1.1
  · exact j0_txt (k := 99) _ _ _ _ h1
  · exact j0_bool (k := 99) _ _ _ _
  · exact j0_num (k := 99) 0 _ _ _ s0 h1.1
  · exact j0_txt (k := 99) _ _ _ _ h1
  · exact j0_bool (k := 99) _ _ _ _
  · exact j0_num (k := 99) 0 _ _ _ s0 h1.1
theorem exists_row (P : Nat → S35 → Prop) (n : Nat) (h : ∀ i, i < n → ∃ v, P i v) : ∃ vs : List S35, vs.length = n ∧ ∀ i, i < n → P i (vs.getD i z35) := by
  induction n with
  | zero => exact ⟨[], rfl, fun i hi => by omega⟩
  | succ n ih =>
    obtain ⟨vs, h1, h2⟩ := ih (fun i hi => h i (by omega))
    obtain ⟨v, hv⟩ := h n (by omega)
    refine ⟨vs ++ [v], by simp [h1], fun i hi => ?_⟩
    by_cases hin : i < n
    · have := h2 i hin
      rw [List.getD_eq_getElem?_getD] at this ⊢
      rwa [List.getElem?_append_left (by omega)]
    · obtain rfl : i = n := by omega
      rw [List.getD_eq_getElem?_getD, List.getElem?_append_right (by omega), h1]
      simpa using hv
theorem row_f {T : List S63} (hT : ∀ t ∈ T, t ∈ ty7) {l : List Int} (hb : Byt l) : ∃ vs, RowOf 100 T l vs ∧ ∀ i : Nat, i < T.length → rd_T35 vs (i : Int) ∈ VT (rd_T63 T (i : Int)) := by
  obtain ⟨vs, h1, h2⟩ := exists_row (fun i v => v ∈ VT (rd_T63 T (i : Int)) ∧ chapmanref06_Value.f 100 (rd_T63 T i).f0 (rd_T63 T i).f1 (rd_T63 T i).f2 (rowByte l (2 * i)) (rowByte l (2 * i + 1)) = some (v.f0, v.f1, v.f2)) T.length (fun i hi => by
    have ht : rd_T63 T (i : Int) ∈ ty7 := by
      refine hT _ ?_
      unfold rd_T63
      rw [Int.toNat_natCast, List.getD_eq_getElem?_getD, List.getElem?_eq_getElem hi]
      exact List.getElem_mem _
    obtain ⟨v, hv, h⟩ := val_f ht (b0 := rowByte l (2 * i)) (rowByte_range hb (2 * i + 1))
    exact ⟨v, hv, h⟩)
  refine ⟨vs, ⟨h1, fun i hi => ?_⟩, fun i hi => ?_⟩
  · have := (h2 i hi).2
    simpa [rd_T35] using this
  · have := (h2 i hi).1
    simpa [rd_T35] using this
theorem rd63_mem {T : List S63} (hT : ∀ t ∈ T, t ∈ ty7) {m : Nat} (hm : m < T.length) : rd_T63 T (m : Int) ∈ ty7 := by
  refine hT _ ?_
  unfold rd_T63
  rw [Int.toNat_natCast, List.getD_eq_getElem?_getD, List.getElem?_eq_getElem hm]
  exact List.getElem_mem _
theorem made_spec {T : List S63} (hT : ∀ t ∈ T, t ∈ ty7) {b0 b1 b2 : Int} (h0 : 0 ≤ b0 ∧ b0 < 256) (h1 : 0 ≤ b1 ∧ b1 < 256) (h2 : 0 ≤ b2 ∧ b2 < 256) :
    ∃ a b n, chapmanref32_Made.f T b0 b1 b2 = ⟨a, b, n⟩ ∧ ((a = 0 ∧ b = 0 ∧ n = 0) ∨ ∃ m : Nat, b = (m : Int) ∧ m < T.length ∧ (a, n) ∈ SPl (rd_T63 T (m : Int))) := by
  unfold chapmanref32_Made.f
  split
  · exact ⟨0, 0, 0, rfl, .inl ⟨rfl, rfl, rfl⟩⟩
  · rename_i hz
    have hp : (0 : Int) < T.length := by omega
    have e1 := Int.emod_nonneg b1 (b := (T.length : Int)) (by omega)
    have e2 := Int.emod_lt_of_pos b1 hp
    obtain ⟨m, hm⟩ : ∃ m : Nat, b1 % (T.length : Int) = m := ⟨_, (Int.toNat_of_nonneg e1).symm⟩
    rw [hm]
    have hmt : m < T.length := by omega
    have ht := rd63_mem hT hmt
    have k8 : ∀ x : Int, 0 ≤ x → x < 8 → (2, 1 + x) ∈ SPl (rd_T63 T (m : Int)) := fun x h0 h1 => by
      refine List.mem_append_left _ (List.mem_cons_of_mem _ (List.mem_map.2 ⟨x.toNat, List.mem_range.2 (by omega), ?_⟩))
      rw [Int.toNat_of_nonneg h0]
    have k1 : ((1 : Int), (0 : Int)) ∈ SPl (rd_T63 T (m : Int)) := List.mem_append_left _ List.mem_cons_self
    unfold chapmanref32_Made.g
    split
    · exact ⟨_, _, _, rfl, .inr ⟨m, rfl, hmt, k8 (b2 % 8) (by omega) (by omega)⟩⟩
    · split
      · exact ⟨_, _, _, rfl, .inr ⟨m, rfl, hmt, k1⟩⟩
      · split
        · exact ⟨_, _, _, rfl, .inr ⟨m, rfl, hmt, k1⟩⟩
        · rename_i ht1
          split
          · rename_i ht3
            refine ⟨_, _, _, rfl, .inr ⟨m, rfl, hmt, List.mem_append_right _ ?_⟩⟩
            rw [if_neg ht1, if_pos ht3]
            exact List.mem_map.2 ⟨(b2 % 4).toNat, List.mem_range.2 (by omega), by rw [Int.toNat_of_nonneg (by omega)]⟩
          · rename_i ht3
            refine ⟨_, _, _, rfl, .inr ⟨m, rfl, hmt, List.mem_append_right _ ?_⟩⟩
            rw [if_neg ht1, if_neg ht3]
            exact List.mem_map.2 ⟨(b2 % 6).toNat, List.mem_range.2 (by omega), by rw [Int.toNat_of_nonneg (by omega)]⟩
theorem noBad : ty7.all (fun t => !badType t) = true := by kernel_rfl
theorem good {T : List S63} (hT : ∀ t ∈ T, t ∈ ty7) : T.any badType = false := by
  rw [List.any_eq_false]
  intro t ht
  have := List.all_eq_true.1 noBad t (hT t ht)
  simpa using this
theorem ext35 {p q : S35} (h : same35 p q = true) : p = q := by
  unfold same35 at h
  simp only [Bool.and_eq_true, beq_iff_eq] at h
  obtain ⟨⟨h0, h1⟩, h2⟩ := h
  cases p with | mk a b c => cases q with | mk a' b' c' =>
  simp only at h0 h1 h2
  subst h0 h1
  congr 1
  cases c with | mk c => cases c' with | mk c' =>
  simp only at h2
  rw [h2]
theorem of_of {a n : Int} {x p : S35} (h : ofT a n x = some p) (b : Int) : partition_of.f 100 a b n x.f0 x.f1 x.f2 = some (p.f0, p.f1, p.f2) := by
  obtain ⟨r, hr, e⟩ := Option.map_eq_some_iff.1 h
  subst e
  exact hr
theorem Of_row {a n : Int} {xs : List S35} {m : Nat} (hm : m < xs.length) (ha : a ≠ 0) {p : S35} (h : ofT a n (rd_T35 xs (m : Int)) = some p) : partition_Of.f 100 a (m : Int) n xs = some (p.f0, p.f1, p.f2) := by
  unfold partition_Of.f
  rw [if_neg ha, if_pos (by omega), if_pos (by omega), of_of h]
  rfl
theorem spec_pos {t : S63} {a n : Int} (h : (a, n) ∈ SPl t) : a = 1 ∨ a = 2 ∨ a = 3 := by
  unfold SPl at h
  rcases List.mem_append.1 h with h | h
  · rcases List.mem_cons.1 h with h | h
    · exact .inl (by injection h)
    · obtain ⟨i, _, e⟩ := List.mem_map.1 h
      injection e with e
      exact .inr (.inl e.symm)
  · split at h
    · cases h
    · split at h <;> (obtain ⟨i, _, e⟩ := List.mem_map.1 h; injection e with e; exact .inr (.inr e.symm))
theorem col1 {t : S63} (ht : t ∈ ty7) {a n : Int} (hs : (a, n) ∈ SPl t) : partition_Valid.kind a t n = some true ∧ ∀ x ∈ VT t, ∃ p, ofT a n x = some p ∧ possT t a n p = some true ∧ (a ≠ 2 → ofT a n p = some p) := by
  have h := List.all_eq_true.1 (List.all_eq_true.1 chk1_all t ht) (a, n) hs
  simp only [Bool.and_eq_true, beq_iff_eq] at h
  refine ⟨h.1, fun x hx => ?_⟩
  have hk := List.all_eq_true.1 h.2 x hx
  unfold ok1 at hk
  split at hk
  · rename_i p hp
    simp only [Bool.and_eq_true, Bool.or_eq_true, beq_iff_eq] at hk
    refine ⟨p, hp, hk.1, fun ha => ?_⟩
    rcases hk.2 with h2 | h2
    · exact absurd h2 ha
    · split at h2
      · rename_i q hq
        obtain rfl := ext35 h2
        exact hq
      · cases h2
  · cases hk
theorem col2 {t : S63} (ht : t ∈ ty7) {a n : Int} (hs : (a, n) ∈ SPl t) (ha : a ≠ 2) {x y p q : S35} (hx : x ∈ VT t) (hy : y ∈ VT t) (hp : ofT a n x = some p) (hq : ofT a n y = some q) :
    ∃ c, chapmanref06_Cmp.f 100 x.f0 x.f1 x.f2 y.f0 y.f1 y.f2 = some c ∧ ∃ d, (c ≤ 0 → d ≤ 0) ∧ chapmanref06_Cmp.f 100 p.f0 p.f1 p.f2 q.f0 q.f1 q.f2 = some d := by
  have h := List.all_eq_true.1 (chk2_all ht) (a, n) hs
  simp only [Bool.or_eq_true, beq_iff_eq] at h
  have hk := List.all_eq_true.1 (List.all_eq_true.1 (h.resolve_left ha) x hx) y hy
  unfold ok2 at hk
  rw [hp, hq] at hk
  simp only at hk
  split at hk
  · rename_i c d hc hd
    simp only [Bool.or_eq_true, decide_eq_true_eq] at hk
    exact ⟨c, hc, d, fun h => by omega, hd⟩
  · cases hk
theorem valid_f {T : List S63} (hT : ∀ t ∈ T, t ∈ ty7) (hl : T.length ≤ 6) {a n : Int} {m : Nat} (hm : m < T.length) (hs : (a, n) ∈ SPl (rd_T63 T (m : Int))) : partition_Valid.f T a (m : Int) n = some true := by
  have ha := spec_pos hs
  unfold partition_Valid.f
  rw [if_pos (by omega), if_neg (by rw [good hT]; decide), if_neg (by omega), if_pos ⟨by omega, by omega, by omega, by omega⟩]
  exact (col1 (rd63_mem hT hm) hs).1
theorem poss_f {T : List S63} (hT : ∀ t ∈ T, t ∈ ty7) (hl : T.length ≤ 6) {a n : Int} {m : Nat} (hm : m < T.length) (hs : (a, n) ∈ SPl (rd_T63 T (m : Int))) {p : S35} (h : possT (rd_T63 T (m : Int)) a n p = some true) : partition_Possible.f 100 T a (m : Int) n p.f0 p.f1 p.f2 = some true := by
  have ha := spec_pos hs
  unfold partition_Possible.f
  rw [valid_f hT hl hm hs]
  simp only [Option.bind_some, if_true]
  rw [if_neg (by omega)]
  exact h
theorem mon_pure {l0 l1 l2 : List Int} (hl0 : Byt l0) (hl1 : Byt l1) (hl2 : Byt l2) {b0 b1 b2 : Int} (h0 : 0 ≤ b0 ∧ b0 < 256) (h1 : 0 ≤ b1 ∧ b1 < 256) (h2 : 0 ≤ b2 ∧ b2 < 256) :
    ∃ (T : List S63) (a b n : Int) (xs ys : List S35) (p q : S35), chapmanref11_Types.f 100 l0 = some T ∧ T.length ≤ 1000 ∧ chapmanref32_Made.f T b0 b1 b2 = ⟨a, b, n⟩ ∧ RowOf 100 T l1 xs ∧ RowOf 100 T l2 ys ∧
      partition_Of.f 100 a b n xs = some (p.f0, p.f1, p.f2) ∧ partition_Of.f 100 a b n ys = some (q.f0, q.f1, q.f2) ∧ partition_Valid.f T a b n = some true ∧ partition_Possible.f 100 T a b n p.f0 p.f1 p.f2 = some true ∧ partition_Possible.f 100 T a b n q.f0 q.f1 q.f2 = some true ∧
      (a = 1 ∨ a = 3 → ∃ m : Nat, b = (m : Int) ∧ m < T.length ∧ ∃ c, chapmanref06_Cmp.f 100 (rd_T35 xs m).f0 (rd_T35 xs m).f1 (rd_T35 xs m).f2 (rd_T35 ys m).f0 (rd_T35 ys m).f1 (rd_T35 ys m).f2 = some c ∧ (∃ d, (c ≤ 0 → d ≤ 0) ∧ chapmanref06_Cmp.f 100 p.f0 p.f1 p.f2 q.f0 q.f1 q.f2 = some d) ∧ partition_Of.f 100 a b n (xs.set m p) = some (p.f0, p.f1, p.f2)) := by
  have hT : ∀ t ∈ typesOf l0, t ∈ ty7 := fun t ht => typesOf_mem hl0 ht
  have hl := typesOf_len l0
  obtain ⟨a, b, n, hm, hs⟩ := made_spec hT h0 h1 h2
  obtain ⟨xs, hxr, hxv⟩ := row_f hT hl1
  obtain ⟨ys, hyr, hyv⟩ := row_f hT hl2
  rcases hs with ⟨rfl, rfl, rfl⟩ | ⟨m, rfl, hmt, hs⟩
  · have hv : partition_Valid.f (typesOf l0) 0 0 0 = some true := by
      unfold partition_Valid.f
      rw [if_pos (by omega), if_neg (by rw [good hT]; decide), if_pos rfl]
      rfl
    have hp : partition_Possible.f 100 (typesOf l0) 0 0 0 0 0 ⟨#[]⟩ = some true := by
      unfold partition_Possible.f
      rw [hv]
      simp only [Option.bind_some, if_true]
      kernel_rfl
    exact ⟨typesOf l0, 0, 0, 0, xs, ys, nul, nul, types_f hl0, by omega, hm, hxr, hyr, rfl, rfl, hv, hp, hp, fun h => by omega⟩
  · have ht := rd63_mem hT hmt
    have ha := spec_pos hs
    obtain ⟨_, hc⟩ := col1 ht hs
    obtain ⟨p, hp, hpp, hpi⟩ := hc _ (hxv m hmt)
    obtain ⟨q, hq, hqp, _⟩ := hc _ (hyv m hmt)
    refine ⟨typesOf l0, a, m, n, xs, ys, p, q, types_f hl0, by omega, hm, hxr, hyr, Of_row (by rw [hxr.1]; exact hmt) (by omega) hp, Of_row (by rw [hyr.1]; exact hmt) (by omega) hq, valid_f hT hl hmt hs, poss_f hT hl hmt hs hpp, poss_f hT hl hmt hs hqp, fun ha13 => ?_⟩
    obtain ⟨c, hcc, hd⟩ := col2 ht hs (by omega) (hxv m hmt) (hyv m hmt) hp hq
    refine ⟨m, rfl, hmt, c, hcc, hd, Of_row (by rw [List.length_set, hxr.1]; exact hmt) (by omega) ?_⟩
    have e : rd_T35 (xs.set m p) (m : Int) = p := by
      unfold rd_T35
      rw [Int.toNat_natCast, List.getD_eq_getElem?_getD, List.getElem?_set]
      simp [hxr.1, hmt]
    rw [e]
    exact hpi (by omega)
end Go.Proofs.YteflfnjljjianaaGreatDoor.Qx
namespace Go.Proofs.YteflfnjljjianaaGreatDoor
namespace Rw
open Go.ChangeShapes Go.WideShapes Go.ChangeAt Go.RowKit Go.Proofs.YteflfnjljjianaaGreatDoor.Qx Go.Proofs.YteflfnjljjianaaGreatDoorW.PrintWords Go.Proofs.YteflfnjljjianaaGreatDoorW.PrintLast Go.Proofs.YteflfnjljjianaaGreatDoorW.PrintMore
set_option linter.unusedVariables false
theorem own : ownKnob Tryz.prog.godebug = none := by kernel_rfl
theorem laidOut : laidOutB Tryz.prog = true := by kernel_rfl
theorem gv : Tryz.prog.globalNamed "chapman/value.steps" = some 1 := by kernel_rfl
theorem gd : Tryz.prog.globalNamed "chapman/decimal.steps" = some 2 := by kernel_rfl
theorem gvt : (Tryz.prog.globals[1]?).map (·.type) = some 172 := by kernel_rfl
theorem gdt : (Tryz.prog.globals[2]?).map (·.type) = some 172 := by kernel_rfl
theorem cells3 : Tryz.prog.cellsOf 3 = 1 := by kernel_rfl
theorem cells5 : Tryz.prog.cellsOf 5 = 1 := by kernel_rfl
theorem cells22 : Tryz.prog.cellsOf 22 = 1 := by kernel_rfl
theorem cells29 : Tryz.prog.cellsOf 29 = 3 := by kernel_rfl
theorem cells23 : Tryz.prog.cellsOf 23 = 2 := by kernel_rfl
theorem table_of {W : World} {sp : Nat → Bool} {fuel : Nat} {cs : Array Value} {p : List MemPlace}
    (h : DataW.trod (fun _ => ()) Tryz.prog W 0 sp false fuel 172 cs.toList = some (DataW.agg [.lit (.int .i64 1000000), .lit (.int .i64 100000), .lit (.int .i64 10000), .lit (.int .i64 1000), .lit (.int .i64 100), .lit (.int .i64 10), .lit (.int .i64 1)], p)) :
    ∀ i : Nat, i < 7 → cs[i]? = some (.int .i64 (stepN i)) := by
  obtain ⟨xs, m, _, hx, hl, hxl, hg⟩ := DataW.trod_array Tryz.underlying172 h
  rw [cells3] at hg
  have key : ∀ i (x : DataW Unit × List MemPlace), i < 7 → xs[i]? = some x → ∃ n, cs[i]? = some (.int .i64 n) ∧ x.1 = .lit (.int .i64 n) := by
    intro i x hi hxi
    have h1 := hg i hi
    rw [hxi] at h1
    obtain ⟨n, e, hx, _⟩ := DataW.trod_int Tryz.underlying3 h1
    refine ⟨n, ?_, by rw [hx]⟩
    have h2 : ((cs.toList.drop (i * 1)).take 1)[0]? = some (.int .i64 n) := by rw [e]; rfl
    rw [List.getElem?_take, if_pos (by omega), List.getElem?_drop] at h2
    simpa using h2
  have hm := (Prod.mk.inj hx).1
  injection hm with hm
  match xs, hxl, hm, key with
  | [x0, x1, x2, x3, x4, x5, x6], _, hm, key =>
    simp only [List.map_cons, List.map_nil, List.cons.injEq, and_true] at hm
    obtain ⟨e0, e1, e2, e3, e4, e5, e6⟩ := hm
    intro i hi
    match i, hi with
    | 0, hi => obtain ⟨n, hc, hn⟩ := key 0 x0 hi rfl; rw [← e0] at hn; injection hn with hn; injection hn with _ hn; rw [hc, ← hn]; rfl
    | 1, hi => obtain ⟨n, hc, hn⟩ := key 1 x1 hi rfl; rw [← e1] at hn; injection hn with hn; injection hn with _ hn; rw [hc, ← hn]; rfl
    | 2, hi => obtain ⟨n, hc, hn⟩ := key 2 x2 hi rfl; rw [← e2] at hn; injection hn with hn; injection hn with _ hn; rw [hc, ← hn]; rfl
    | 3, hi => obtain ⟨n, hc, hn⟩ := key 3 x3 hi rfl; rw [← e3] at hn; injection hn with hn; injection hn with _ hn; rw [hc, ← hn]; rfl
    | 4, hi => obtain ⟨n, hc, hn⟩ := key 4 x4 hi rfl; rw [← e4] at hn; injection hn with hn; injection hn with _ hn; rw [hc, ← hn]; rfl
    | 5, hi => obtain ⟨n, hc, hn⟩ := key 5 x5 hi rfl; rw [← e5] at hn; injection hn with hn; injection hn with _ hn; rw [hc, ← hn]; rfl
    | 6, hi => obtain ⟨n, hc, hn⟩ := key 6 x6 hi rfl; rw [← e6] at hn; injection hn with hn; injection hn with _ hn; rw [hc, ← hn]; rfl
def laidL : List (String × DataW Unit) := [("chapman/decimal.steps", Rows.laid_chapman_decimal_steps), ("chapman/value.steps", Rows.laid_chapman_value_steps)]
theorem laid_of {W : World} (h : laidMetH Tryz.prog laidL W) : Laid W := by
  obtain ⟨ps, ⟨g, t, cs, fuel, p, q, hg, ht, hc, hd, ⟨g', t', cs', fuel', p', q', hg', ht', hc', hd', _⟩, _⟩, _⟩ := (show laidMet Tryz.prog laidL W from h)
  obtain rfl := Option.some.inj (gd.symm.trans hg)
  obtain rfl := Option.some.inj (gdt.symm.trans ht)
  obtain rfl := Option.some.inj (gv.symm.trans hg')
  obtain rfl := Option.some.inj (gvt.symm.trans ht')
  exact ⟨fun i hi => (World.var?_cell gv hc' i).trans (table_of hd' i hi), fun i hi => (World.var?_cell gd hc i).trans (table_of hd i hi)⟩
noncomputable def tblW (w : World) : World :=
  { w with heap := (w.heap.modify 1 fun
      | .cells _ t frozen => .cells #[.int .i64 1000000, .int .i64 100000, .int .i64 10000, .int .i64 1000, .int .i64 100, .int .i64 10, .int .i64 1] t frozen
      | o => o).modify 2 fun
      | .cells _ t frozen => .cells #[.int .i64 1000000, .int .i64 100000, .int .i64 10000, .int .i64 1000, .int .i64 100, .int .i64 10, .int .i64 1] t frozen
      | o => o }
noncomputable def laidW (os : Os) : World := tblW (World.holding Tryz.prog os ⟨#[], #[], []⟩)
theorem laidW_met (os : Os) (args : Array Value) : laidMetH Tryz.prog laidL ((laidW os).forCall (fun _ _ => 0) ⟨#[], args, []⟩).memory :=
  show laidMet Tryz.prog laidL _ from laidMet_of_run' 8 (by kernel_rfl) (by kernel_rfl)
theorem bytes_of {H : Type} {enc : TypeId × Value → H} {W : World} {fuel : Nat} {cs : List Value} {x : DataW H × List MemPlace} (h : DataW.trod enc Tryz.prog W 0 (fun _ => true) true fuel 22 cs = some x) :
    ∃ A l c, cs = [.slice A (List.length l) c] ∧ l.length ≤ c ∧ Kd.C (Kd.int .u8) W A l.length l ∧ Byt l := by
  have wfb : ∀ x : Int, (Lit.int .u8 x).wf = true → 0 ≤ x ∧ x < 256 := fun x h => by
    simp [Lit.wf, IntKind.min, IntKind.max, IntKind.signed, IntKind.bits] at h
    omega
  have fin : ∀ (A : Option Addr) (len cap : Nat) (zs : List Int), ((A = none ∧ len = 0 ∧ cap = 0 ∧ zs = []) ∨ ∃ x, A = some x ∧ len ≤ cap ∧ cap ≤ maxLen ∧ zs.length = cap ∧ (∀ i, i < zs.length → W.cell? (x.add i) = some (.int .u8 (zs.getD i 0))) ∧ ∀ n ∈ zs, (Lit.int .u8 n).wf = true) →
      ∃ A' l c, [Value.slice A len cap] = [.slice A' (List.length l) c] ∧ l.length ≤ c ∧ Kd.C (Kd.int .u8) W A' l.length l ∧ Byt l := by
    intro A len cap zs h
    obtain ⟨l, rfl, hr, hm, hw, hc⟩ := ReadsInt.ofRowC h
    exact ⟨A, l, cap, rfl, hc, Kd.C_of_reads (d := (0 : Int)) (h1 := fun _ => rfl) hr, fun x hx => wfb x (hw x hx)⟩
  rcases open_ints Tryz.underlying22 Tryz.underlying5 cells5 h with ⟨rfl, _⟩ | ⟨x, l, c, zs, rfl, _, hl, hm, hz, _, hcell, hwz⟩
  · exact fin none 0 0 [] (.inl ⟨rfl, rfl, rfl, rfl⟩)
  · exact fin (some x) l c zs (.inr ⟨x, rfl, hl, hm, by simpa using hz, hcell, hwz⟩)
set_option maxRecDepth 100000 in
theorem three_of {H : Type} {enc : TypeId × Value → H} {W : World} {base : Nat} {v : Value} {d : DataW H} {p : List MemPlace} (hv : Value.okWide Tryz.prog W .any base 29 v) (h : DataW.Trod enc Tryz.prog W 0 (fun _ => true) true 29 v d p) :
    ∃ b0 b1 b2 : Int, v = .agg #[.int .u8 b0, .int .u8 b1, .int .u8 b2] ∧ (0 ≤ b0 ∧ b0 < 256) ∧ (0 ≤ b1 ∧ b1 < 256) ∧ (0 ≤ b2 ∧ b2 < 256) := by
  have wfb : ∀ x : Int, (Lit.int .u8 x).wf = true → 0 ≤ x ∧ x < 256 := fun x h => by
    simp [Lit.wf, IntKind.min, IntKind.max, IntKind.signed, IntKind.bits] at h
    omega
  obtain ⟨cs, rfl, hsz, _⟩ : ∃ cs, v = .agg cs ∧ cs.size = Tryz.prog.cellsOf 29 ∧ Row.okWide Tryz.prog W .any base 29 cs := by
    simpa [Value.okWide, Tryz.underlying29] using hv
  rw [cells29] at hsz
  obtain ⟨l⟩ := cs
  match l, hsz, h with
  | [c0, c1, c2], _, h =>
    obtain ⟨fuel, hf⟩ := h
    obtain ⟨y0, y1, y2, m, _, hy0, hy1, hy2⟩ := trod_array3 Tryz.underlying29 cells5 hf
    obtain ⟨x0, e0, _, w0⟩ := DataW.trod_int Tryz.underlying5 hy0
    obtain ⟨x1, e1, _, w1⟩ := DataW.trod_int Tryz.underlying5 hy1
    obtain ⟨x2, e2, _, w2⟩ := DataW.trod_int Tryz.underlying5 hy2
    simp at e0 e1 e2
    subst e0 e1 e2
    exact ⟨x0, x1, x2, rfl, wfb _ w0, wfb _ w1, wfb _ w2⟩
set_option maxRecDepth 100000 in
theorem two_of {H : Type} {enc : TypeId × Value → H} {W : World} {base : Nat} {v : Value} {d : DataW H} {p : List MemPlace} (hv : Value.okWide Tryz.prog W .any base 23 v) (h : DataW.Trod enc Tryz.prog W 0 (fun _ => true) true 23 v d p) :
    ∃ A1 l1 c1 A2 l2 c2, v = .agg #[.slice A1 (List.length l1) c1, .slice A2 (List.length l2) c2] ∧ l1.length ≤ c1 ∧ Kd.C (Kd.int .u8) W A1 l1.length l1 ∧ Byt l1 ∧ l2.length ≤ c2 ∧ Kd.C (Kd.int .u8) W A2 l2.length l2 ∧ Byt l2 := by
  obtain ⟨cs, rfl, hsz, _⟩ : ∃ cs, v = .agg cs ∧ cs.size = Tryz.prog.cellsOf 23 ∧ Row.okWide Tryz.prog W .any base 23 cs := by
    simpa [Value.okWide, Tryz.underlying23] using hv
  rw [cells23] at hsz
  obtain ⟨l⟩ := cs
  match l, hsz, h with
  | [s0, s1], _, h =>
    obtain ⟨fuel, hf⟩ := h
    obtain ⟨xs, m, _, _, _, hxl, hg⟩ := DataW.trod_array Tryz.underlying23 hf
    rw [cells22] at hg
    match xs, hxl, hg with
    | [x0, x1], _, hg =>
      have h0 := hg 0 (by omega)
      have h1 := hg 1 (by omega)
      obtain ⟨A1, l1, c1, e1, k1, r1, y1⟩ := bytes_of h0
      obtain ⟨A2, l2, c2, e2, k2, r2, y2⟩ := bytes_of h1
      simp [Value.cells] at e1 e2
      subst e1 e2
      exact ⟨A1, l1, c1, A2, l2, c2, rfl, k1, r1, y1, k2, r2, y2⟩
set_option maxRecDepth 100000 in
theorem mon_lifted (os : Os) (started : os.Started) (H : Type) (enc : TypeId × Value → H) :
    ReturnsInHanded {} Tryz.checked os 4 .any (fun w args => (Rows.partitionMonotoneSpec.pre enc Tryz.prog Tryz.f4 [] false w args ∧ laidMetH Tryz.prog laidL w) ∧ sizedMet enc Tryz.prog Tryz.f4 (OpenSpec.ofChange Rows.partitionMonotoneSpec) false w args)
      (Rows.partitionMonotoneSpec.post enc Tryz.prog Tryz.f4 false true false false) := by
  refine returnsInHanded_of_change_and (C := Tryz.checked) (X := fun w _ => laidMetH Tryz.prog laidL w) (fun _ _ _ hh h => h.of_heap hh) own started (by kernel_rfl) Tryz.func4
    (ChangeSpec.witness_at (enc := enc) (C := Tryz.checked) (os := os) (X := fun w _ => laidMetH Tryz.prog laidL w) false (laidW os) #[.slice none 0 0, .agg #[.int .u8 0, .int .u8 0, .int .u8 0], .agg #[.slice none 0 0, .slice none 0 0]] 8 rfl (by kernel_rfl) (by kernel_rfl) (by kernel_rfl) (by kernel_rfl) (by kernel_rfl) (laidW_met os _)) ?_
  intro W base args ds gs before hval0 hW _ _ hL _
  have hval : ∀ (j : Nat) t v, Tryz.f4.params[j]? = some t → args[j]? = some v → Value.okWide Tryz.prog W .any base t v := hval0
  have hW' := hW
  obtain ⟨p, q, hA0, hV, rfl, hfz, hnd⟩ := hW
  have hA : DataW.TrodAll enc Tryz.prog W 0 (fun _ => true) true Tryz.f4.params.toList args.toList ds p := hA0
  rw [Tryz.params4] at hA hval
  obtain ⟨v0, vs0, d0, ds0, p0, q0, hargs, rfl, rfl, h0, r0⟩ := trodAll_cons hA
  obtain ⟨v1, vs1, d1, ds1, p1, q1, rfl, rfl, rfl, h1, r1⟩ := trodAll_cons r0
  obtain ⟨v2, vs2, d2, ds2, p2, q2, rfl, rfl, rfl, h2, r2⟩ := trodAll_cons r1
  obtain ⟨rfl, rfl, rfl⟩ := trodAll_nil r2
  obtain rfl : args = #[v0, v1, v2] := by cases args; simp_all
  obtain ⟨rfl, rfl⟩ := trodVars_none hV
  have k0 := h0
  have k1 := h1
  have k2 := h2
  have lt0 : ∀ x ∈ p0, x.block < W.heap.size := by obtain ⟨m, hm⟩ := k0; exact DataW.trod_lt m _ _ _ hm
  have lt1 : ∀ x ∈ p1, x.block < W.heap.size := by obtain ⟨m, hm⟩ := k1; exact DataW.trod_lt m _ _ _ hm
  have lt2 : ∀ x ∈ p2, x.block < W.heap.size := by obtain ⟨m, hm⟩ := k2; exact DataW.trod_lt m _ _ _ hm
  obtain ⟨a0, len0, cap0, rfl⟩ := okWide_slice Tryz.underlying22 (hval 0 22 v0 rfl rfl)
  obtain ⟨fuel, hf⟩ := h0
  obtain ⟨A0, l0, c0, e0, hc0, hr0, hy0⟩ := bytes_of hf
  obtain ⟨b0, b1, b2, rfl, hb0, hb1, hb2⟩ := three_of (hval 1 29 v1 rfl rfl) h1
  obtain ⟨A1, l1, c1, A2, l2, c2, rfl, hc1, hr1, hy1, hc2, hr2, hy2⟩ := two_of (hval 2 23 v2 rfl rfl) h2
  simp only [Value.cells, List.cons.injEq, and_true] at e0
  injection e0 with e0 e1 e2
  subst e0 e1 e2
  obtain ⟨T, a, b, n, xs, ys, p', q', g1, g2, g3, g4, g5, g6, g7, g8, g9, g10, g11⟩ := mon_pure hy0 hy1 hy2 hb0 hb1 hb2
  clear hA0 hval0
  refine (chapmanlaw32_PartitionMonotone.calls a0 cap0 l0 b0 b1 b2 A1 c1 l1 A2 c2 l2 W (laid_of hL) hr0 hc0 hr1 hc1 hr2 hc2 hb0 hb1 hb2 hy1 hy2 T g1 g2 a b n g3 xs ys g4 g5 p' q' g6 g7 g8 g9 g10 g11).mono fun e W' ⟨he, bel⟩ => ?_
  subst he
  exact ⟨_, rfl, _, _, _, [], _, [], hW', trodAll_mk1 (shut_bool Tryz.underlying4 _),
    trodAll_cons_mk (Below.trod laidOut (by kernel_rfl) (of_decide_eq_true (by kernel_rfl)) k0 bel lt0) (trodAll_cons_mk (Below.trod laidOut (by kernel_rfl) (of_decide_eq_true (by kernel_rfl)) k1 bel lt1) (trodAll_cons_mk (Below.trod laidOut (by kernel_rfl) (of_decide_eq_true (by kernel_rfl)) k2 bel lt2) trodAll_mk0)), rfl, bel.frame _, fun h => by cases h⟩
theorem mon_row : Rows.PartitionMonotoneSaid :=
  OpenClaim.holds_of_wide 4 Tryz.f4 rfl rfl rfl rfl rfl rfl rfl ⟨rfl, rfl, rfl, rfl, rfl⟩ rfl rfl rfl rfl rfl (by kernel_rfl) Tryz.func4 (by kernel_rfl)
    (of_decide_eq_true (by kernel_rfl)) (by unfold Func.isWrapper; first | (rw [if_pos (by decide +kernel)]; kernel_rfl) | (rw [if_neg (by decide +kernel)]; exact ⟨rfl, rfl⟩))
    (fun os started H enc _ => mon_lifted os started H enc)
theorem mon_card : Rows.PartitionMonotoneCardSaid :=
  Claim7.holds_tied_plain_at .later [] [.data, .data] true (true, "ce419de17c798dc981aef98fc54f8a5232ef72c256b58cd68ef6717b0c115c19") false
    mon_row (fun _ h => by cases h) (by kernel_rfl) (fun _ h => by cases h) partitionMonotone_row_tie rfl ⟨rfl, rfl⟩ (by kernel_rfl) rfl
    (fun f fn hf hfn => by
      obtain rfl : f = 4 := Option.some.inj ((show Tryz.prog.funcNamed "chapman/chapmanlaw32.PartitionMonotone" = some 4 by kernel_rfl).symm.trans hf) |>.symm
      obtain rfl : fn = Tryz.f4 := (Option.some.inj (Tryz.func4.symm.trans hfn)).symm
      exact ⟨by kernel_rfl, fun j t ht => by
        rw [Tryz.params4] at ht
        rcases j with _ | _ | _ | j
        · obtain rfl : 22 = t := by simpa using ht
          exact (show Tryz.prog.wantsStandIn 22 = false by kernel_rfl)
        · obtain rfl : 29 = t := by simpa using ht
          exact (show Tryz.prog.wantsStandIn 29 = false by kernel_rfl)
        · obtain rfl : 23 = t := by simpa using ht
          exact (show Tryz.prog.wantsStandIn 23 = false by kernel_rfl)
        · simp at ht⟩)
    (by kernel_rfl)
#print axioms mon_card
end Rw
end Go.Proofs.YteflfnjljjianaaGreatDoor
