/- For every drawn input that is laid out, the card PartitionBounds answers as its law says (PartitionBoundsCardSaid); there are no conditions. -/
import Derived.Test.YteflfnjljjianaaGreatDoorPB02
import Derived.Test.YteflfnjljjianaaGreatDoorPB08
import Derived.Test.YteflfnjljjianaaGreatDoorPB06
import Derived.Test.YteflfnjljjianaaGreatDoorPB05
import Derived.Test.YteflfnjljjianaaGreatDoorPB11
import Derived.Test.YteflfnjljjianaaGreatDoorPB12
import Derived.KernelRfl
import Derived.Test.YteflfnjljjianaaGreatDoorPB03
import Derived.Test.YteflfnjljjianaaGreatDoorRows
import Derived.Test.YteflfnjljjianaaGreatDoorTie
import Derived.Test.YteflfnjljjianaaGreatDoorCards
import Derived.WalkKit
import Derived.ProofKit
import Derived.OpenShut
import Derived.ShutString
import Derived.ChangeOld
import Derived.Below
import Derived.SizedLaws
import Derived.JoinedOf
import Derived.LaidLaws
import Derived.LaidHandle
import Derived.Laws.IdiomArrays
import Derived.SevenTiedAt
import Derived.RowKitTokens
import Derived.ChangeVars
namespace Go.Proofs.YteflfnjljjianaaGreatDoor.Qx
open Go.RowKit Go.Proofs.YteflfnjljjianaaGreatDoorW.PrintWords Go.Proofs.YteflfnjljjianaaGreatDoorW.PrintLast Go.Proofs.YteflfnjljjianaaGreatDoorW.PrintMore
attribute [local go_sem] max2_int min2_int max_two min_two
set_option linter.unusedVariables false
set_option linter.unusedSimpArgs false
attribute [local go_sem high] eqA35 eqA82
def OkB (x : S82) : Prop := ∀ X : World, LaidN X → Calls Tryz.prog 35 #[.agg #[.int .i64 x.f0, .bool x.f1, .int .i64 x.f2.f0, .int .i64 x.f2.f1, .string x.f2.f2, .int .i64 x.f3.f0, .int .i64 x.f3.f1, .string x.f3.f2, .int .i64 x.f4]] X fun e w' => e = .returned (.bool true) ∧ Below X.heap.size X w'
def HasB (x : S82) (v : S35) (r : Bool) : Prop := ∀ X : World, LaidN X → Calls Tryz.prog 36 #[.agg #[.int .i64 x.f0, .bool x.f1, .int .i64 x.f2.f0, .int .i64 x.f2.f1, .string x.f2.f2, .int .i64 x.f3.f0, .int .i64 x.f3.f1, .string x.f3.f2, .int .i64 x.f4], .agg #[.int .i64 v.f0, .int .i64 v.f1, .string v.f2]] X fun e w' => e = .returned (.bool r) ∧ Below X.heap.size X w'
def BndD (N : Nat) (AT : Option Addr) (T : List S63) (b9 : Nat) (a b n : Int) (vx vy : Value) (xs ys : List S35) (b12 b13 : Nat) (p : S35) (AL : Option Addr) (cL : Nat) (L : List S82) (X : World) : Prop :=
  MonB N AT T b9 a b n vx vy xs ys X ∧ LaidN X ∧ X.heap[b12]? = some (.cells #[.int .i64 p.f0, .int .i64 p.f1, .string p.f2] 35 (0, 0)) ∧ X.heap[b13]? = some (.cells #[.slice AL T.length cL, .int .i64 0] 56 (0, 0)) ∧ LiesL X AL L
theorem LiesL.below {X Y : World} {A : Option Addr} {L : List S82} (h : LiesL X A L) (hb : Below X.heap.size X Y) : LiesL Y A L := by
  rcases h with h | ⟨g, e, h⟩
  · exact .inl h
  · exact .inr ⟨g, e, blk_below h hb⟩
theorem BndD.below {N : Nat} {AT : Option Addr} {T : List S63} {b9 : Nat} {a b n : Int} {vx vy : Value} {xs ys : List S35} {b12 b13 : Nat} {p : S35} {AL : Option Addr} {cL : Nat} {L : List S82} {X Y : World} (h : BndD N AT T b9 a b n vx vy xs ys b12 b13 p AL cL L X) (hb : Below X.heap.size X Y) : BndD N AT T b9 a b n vx vy xs ys b12 b13 p AL cL L Y :=
  ⟨h.1.below hb, h.2.1.below hb, blk_below h.2.2.1 hb, blk_below h.2.2.2.1 hb, h.2.2.2.2.below hb⟩
theorem LiesL.at {X : World} {A : Option Addr} {L : List S82} (h : LiesL X A L) {j : Nat} (hj : j < L.length) : ∃ g, A = some ⟨g, 0, none⟩ ∧ RowL X g L := by
  rcases h with h | ⟨g, e, h⟩
  · subst h; simp at hj
  · exact ⟨g, e, h⟩
theorem row82 {X : World} {g : Nat} {L : List S82} (h : RowL X g L) {j : Nat} (hj : j < L.length) {x : S82} (hx : L.getD j z82 = x) :
    X.cell? ⟨g, j * 9, none⟩ = some (.int .i64 x.f0) ∧ X.cell? ⟨g, j * 9 + 1, none⟩ = some (.bool x.f1) ∧ X.cell? ⟨g, j * 9 + 2, none⟩ = some (.int .i64 x.f2.f0) ∧ X.cell? ⟨g, j * 9 + 3, none⟩ = some (.int .i64 x.f2.f1) ∧ X.cell? ⟨g, j * 9 + 4, none⟩ = some (.string x.f2.f2) ∧
    X.cell? ⟨g, j * 9 + 5, none⟩ = some (.int .i64 x.f3.f0) ∧ X.cell? ⟨g, j * 9 + 6, none⟩ = some (.int .i64 x.f3.f1) ∧ X.cell? ⟨g, j * 9 + 7, none⟩ = some (.string x.f3.f2) ∧ X.cell? ⟨g, j * 9 + 8, none⟩ = some (.int .i64 x.f4) := by
  subst hx
  exact ⟨(h.cell j 0 hj (by omega)).trans rfl, (h.cell j 1 hj (by omega)).trans rfl, (h.cell j 2 hj (by omega)).trans rfl, (h.cell j 3 hj (by omega)).trans rfl, (h.cell j 4 hj (by omega)).trans rfl, (h.cell j 5 hj (by omega)).trans rfl, (h.cell j 6 hj (by omega)).trans rfl, (h.cell j 7 hj (by omega)).trans rfl, (h.cell j 8 hj (by omega)).trans rfl⟩
theorem OwnV.far_put {N : Nat} {xs : List S35} {g c n g' m : Nat} {X : World} {p : S35} (h : OwnV N xs (.slice (some ⟨g, 0, none⟩) n c) X) (hne : g ≠ g') : OwnV N xs (.slice (some ⟨g, 0, none⟩) n c) (putMon X g' m p) := by
  refine ⟨h.1, ?_⟩
  rcases h.2 with h2 | ⟨g1, cap, cur, h1, hb, hg, hr⟩
  · exact .inl h2
  · refine .inr ⟨g1, cap, cur, h1, hb, ?_, hr⟩
    injection h1 with h1
    injection h1 with h1
    injection h1 with h1
    subst h1
    exact putMon_far hg hne
theorem two_put {N : Nat} {xs ys : List S35} {gx cx gy cy m : Nat} {X : World} {lo hi : S35} {Q : List S35 → Prop} (hx : OwnV N xs (.slice (some ⟨gx, 0, none⟩) xs.length cx) X) (hy : OwnV N ys (.slice (some ⟨gy, 0, none⟩) ys.length cy) X) (hl : xs.length = ys.length) (hm : m < xs.length)
    (q1 : Q (xs.set m lo)) (q2 : Q (ys.set m hi)) : ∃ xs' ys', xs'.length = xs.length ∧ ys'.length = ys.length ∧ Q xs' ∧ Q ys' ∧ OwnV N xs' (.slice (some ⟨gx, 0, none⟩) xs.length cx) (putMon (putMon X gx m lo) gy m hi) ∧ OwnV N ys' (.slice (some ⟨gy, 0, none⟩) ys.length cy) (putMon (putMon X gx m lo) gy m hi) := by
  by_cases hg : gx = gy
  · subst hg
    have he : xs = ys := by
      apply List.ext_getElem hl
      intro i h1 h2
      obtain ⟨a0, a1, a2⟩ := own35 hx h1
      obtain ⟨b0, b1, b2⟩ := own35 hy h2
      rw [a0] at b0
      rw [a1] at b1
      rw [a2] at b2
      injection b0 with b0; injection b0 with _ b0
      injection b1 with b1; injection b1 with _ b1
      injection b2 with b2; injection b2 with b2
      have ex : rd_T35 xs (i : Int) = xs[i] := by simp [rd_T35, h1]
      have ey : rd_T35 ys (i : Int) = ys[i] := by simp [rd_T35, h2]
      rw [ex, ey] at b0 b1 b2
      cases h3 : xs[i]; cases h4 : ys[i]
      simp_all
    subst he
    have h1 := hx.put hm lo
    have h2 := h1.put (m := m) (by simpa using hm) hi
    have h3 := (hy.put hm lo).put (m := m) (by simpa using hm) hi
    rw [List.set_set] at h2 h3
    simp only [List.length_set] at h2 h3
    exact ⟨xs.set m hi, xs.set m hi, by simp, by simp, q2, q2, h2, h3⟩
  · have h1 := hx.put hm lo
    have h2a : OwnV N ys (.slice (some ⟨gy, 0, none⟩) ys.length cy) (putMon X gx m lo) := OwnV.far_put hy (fun e => hg e.symm)
    have hm2 : m < ys.length := by omega
    have h2 := h2a.put hm2 hi
    have h3 : OwnV N (xs.set m lo) (.slice (some ⟨gx, 0, none⟩) (xs.set m lo).length cx) (putMon (putMon X gx m lo) gy m hi) := OwnV.far_put h1 hg
    rw [List.length_set] at h2 h3
    exact ⟨xs.set m lo, ys.set m hi, List.length_set, List.length_set, q1, q2, h3, h2⟩
theorem round_end {n j : Nat} {W X : World} (hlt : j < n) (hn : n ≤ 100000) (hX : Below W.heap.size W X) : (∃ i : Nat, Value.int IntKind.i64 (wrap64 ((j : Int) + 1)) = Value.int IntKind.i64 (i : Int) ∧ i ≤ n ∧ Below W.heap.size W X) ∧
    n - (intOf (Value.int IntKind.i64 (wrap64 ((j : Int) + 1)))).toNat < n - (intOf (Value.int IntKind.i64 (j : Int))).toNat := by
  have hw : wrap64 ((j : Int) + 1) = ((j + 1 : Nat) : Int) := by unfold wrap64; omega
  rw [hw]
  refine ⟨⟨j + 1, rfl, by omega, hX⟩, ?_⟩
  show n - (((j + 1 : Nat) : Int)).toNat < n - ((j : Int)).toNat
  omega
theorem OwnV.cap {N : Nat} {xs ys : List S35} {g cx cy : Nat} {X : World} (hx : OwnV N xs (.slice (some ⟨g, 0, none⟩) xs.length cx) X) (hy : OwnV N ys (.slice (some ⟨g, 0, none⟩) ys.length cy) X) : cx = cy := by
  rcases hx.2 with ⟨e, _⟩ | ⟨g1, cap, cur, e, _, k1, _, _, k4, _⟩
  · cases e
  · rcases hy.2 with ⟨e', _⟩ | ⟨g2, cap', cur', e', _, q1, _, _, q4, _⟩
    · cases e'
    · injection e with e1 _ e3
      injection e1 with e1
      injection e1 with e1
      injection e' with e1' _ e3'
      injection e1' with e1'
      injection e1' with e1'
      subst e1 e1' e3 e3'
      rw [k1] at q1
      injection q1 with q1
      injection q1 with q1
      subst q1
      omega
theorem one_put {N : Nat} {xs ys : List S35} {gx cx gy cy m : Nat} {X : World} {lo : S35} (hx : OwnV N xs (.slice (some ⟨gx, 0, none⟩) xs.length cx) X) (hy : OwnV N ys (.slice (some ⟨gy, 0, none⟩) ys.length cy) X) (hl : xs.length = ys.length) (hm : m < xs.length) :
    ∃ zs, zs.length = ys.length ∧ OwnV N zs (.slice (some ⟨gy, 0, none⟩) zs.length cy) (putMon X gx m lo) := by
  by_cases hg : gx = gy
  · subst hg
    obtain rfl := OwnV.cap hx hy
    exact ⟨xs.set m lo, by rw [List.length_set]; exact hl, hx.put hm lo⟩
  · exact ⟨ys, rfl, OwnV.far_put hy (fun e => hg e.symm)⟩
def bndRel14 (b13 gL nT cL gx nx cx j : Nat) (x : S82) (vx : S35) (i : Nat) (v : Value) (X : World) : Prop := match i with
  | 0 => v = .pointer (some ⟨b13, 0, none⟩)
  | 1 => v = .slice (some ⟨gL, 0, none⟩) nT cL
  | 2 => v = .int .i64 (j : Int)
  | 3 => v = .pointer (some ⟨gL, j * 9, none⟩)
  | 4 => v = .agg #[.int .i64 x.f0, .bool x.f1, .int .i64 x.f2.f0, .int .i64 x.f2.f1, .string x.f2.f2, .int .i64 x.f3.f0, .int .i64 x.f3.f1, .string x.f3.f2, .int .i64 x.f4]
  | 5 => v = .bool true
  | 6 => v = .bool false
  | 7 => v = .bool false
  | 8 => v = .pointer (some ⟨b13, 0, none⟩)
  | 9 => v = .slice (some ⟨gL, 0, none⟩) nT cL
  | 10 => v = .int .i64 (j : Int)
  | 11 => v = .pointer (some ⟨gL, j * 9, none⟩)
  | 12 => v = .agg #[.int .i64 x.f0, .bool x.f1, .int .i64 x.f2.f0, .int .i64 x.f2.f1, .string x.f2.f2, .int .i64 x.f3.f0, .int .i64 x.f3.f1, .string x.f3.f2, .int .i64 x.f4]
  | 13 => v = .slice (some ⟨gx, 0, none⟩) nx cx
  | 14 => v = .int .i64 (j : Int)
  | 15 => v = .pointer (some ⟨gx, j * 3, none⟩)
  | 16 => v = .agg #[.int .i64 vx.f0, .int .i64 vx.f1, .string vx.f2]
  | 17 => v = .bool true
  | 18 => v = .bool false
  | 19 => v = .bool false
  | _ => True
theorem bndRel14.stable (b13 gL nT cL gx nx cx j : Nat) (x : S82) (vx : S35) : ∀ i v X Y, Below X.heap.size X Y → bndRel14 b13 gL nT cL gx nx cx j x vx i v X → bndRel14 b13 gL nT cL gx nx cx j x vx i v Y := by
  intro i v X Y hb h
  match i, h with
  | 0, h => exact h
  | 1, h => exact h
  | 2, h => exact h
  | 3, h => exact h
  | 4, h => exact h
  | 5, h => exact h
  | 6, h => exact h
  | 7, h => exact h
  | 8, h => exact h
  | 9, h => exact h
  | 10, h => exact h
  | 11, h => exact h
  | 12, h => exact h
  | 13, h => exact h
  | 14, h => exact h
  | 15, h => exact h
  | 16, h => exact h
  | 17, h => exact h
  | 18, h => exact h
  | 19, h => exact h
  | i + 20, _ => exact trivial
def bndRel19 (b13 gL nT cL gy ny cy j : Nat) (x : S82) (vy p q : S35) (a b n : Int) (r : Bool) (i : Nat) (v : Value) (X : World) : Prop := match i with
  | 0 => v = .pointer (some ⟨b13, 0, none⟩)
  | 1 => v = .slice (some ⟨gL, 0, none⟩) nT cL
  | 2 => v = .int .i64 (j : Int)
  | 3 => v = .pointer (some ⟨gL, j * 9, none⟩)
  | 4 => v = .agg #[.int .i64 x.f0, .bool x.f1, .int .i64 x.f2.f0, .int .i64 x.f2.f1, .string x.f2.f2, .int .i64 x.f3.f0, .int .i64 x.f3.f1, .string x.f3.f2, .int .i64 x.f4]
  | 5 => v = .slice (some ⟨gy, 0, none⟩) ny cy
  | 6 => v = .int .i64 (j : Int)
  | 7 => v = .pointer (some ⟨gy, j * 3, none⟩)
  | 8 => v = .agg #[.int .i64 vy.f0, .int .i64 vy.f1, .string vy.f2]
  | 9 => v = .bool r
  | 10 => v = .agg #[.int .i64 a, .int .i64 b, .int .i64 n]
  | 11 => v = .slice (some ⟨gy, 0, none⟩) ny cy
  | 12 => v = .agg #[.int .i64 q.f0, .int .i64 q.f1, .string q.f2]
  | 13 => v = .agg #[.int .i64 p.f0, .int .i64 p.f1, .string p.f2]
  | 14 => v = .bool r
  | 15 => v = .bool false
  | _ => True
theorem bndRel19.stable (b13 gL nT cL gy ny cy j : Nat) (x : S82) (vy p q : S35) (a b n : Int) (r : Bool) : ∀ i v X Y, Below X.heap.size X Y → bndRel19 b13 gL nT cL gy ny cy j x vy p q a b n r i v X → bndRel19 b13 gL nT cL gy ny cy j x vy p q a b n r i v Y := by
  intro i v X Y hb h
  match i, h with
  | 0, h => exact h
  | 1, h => exact h
  | 2, h => exact h
  | 3, h => exact h
  | 4, h => exact h
  | 5, h => exact h
  | 6, h => exact h
  | 7, h => exact h
  | 8, h => exact h
  | 9, h => exact h
  | 10, h => exact h
  | 11, h => exact h
  | 12, h => exact h
  | 13, h => exact h
  | 14, h => exact h
  | 15, h => exact h
  | i + 16, _ => exact trivial
def bndRel22 (gx nx cx j : Nat) (i : Nat) (v : Value) (X : World) : Prop := match i with
  | 0 => v = .slice (some ⟨gx, 0, none⟩) nx cx
  | 1 => v = .int .i64 (j : Int)
  | 2 => v = .pointer (some ⟨gx, j * 3, none⟩)
  | 3 => v = .agg #[.int .i64 0, .int .i64 0, .string ⟨#[]⟩]
  | 4 => v = .agg #[.int .i64 0, .int .i64 0, .string ⟨#[]⟩]
  | 5 => v = .bool true
  | 6 => v = .bool true
  | 7 => v = .bool true
  | 8 => v = .bool true
  | 9 => v = .bool true
  | _ => True
theorem bndRel22.stable (gx nx cx j : Nat) : ∀ i v X Y, Below X.heap.size X Y → bndRel22 gx nx cx j i v X → bndRel22 gx nx cx j i v Y := by
  intro i v X Y hb h
  match i, h with
  | 0, h => exact h
  | 1, h => exact h
  | 2, h => exact h
  | 3, h => exact h
  | 4, h => exact h
  | 5, h => exact h
  | 6, h => exact h
  | 7, h => exact h
  | 8, h => exact h
  | 9, h => exact h
  | i + 10, _ => exact trivial
def bndRel25 (gx nx cx gy ny cy : Nat) (p : S35) (a b n : Int) (i : Nat) (v : Value) (X : World) : Prop := match i with
  | 0 => v = .agg #[.int .i64 a, .int .i64 b, .int .i64 n]
  | 1 => v = .slice (some ⟨gx, 0, none⟩) nx cx
  | 2 => v = .agg #[.int .i64 p.f0, .int .i64 p.f1, .string p.f2]
  | 3 => v = .agg #[.int .i64 p.f0, .int .i64 p.f1, .string p.f2]
  | 4 => v = .bool true
  | 5 => v = .bool true
  | 6 => v = .agg #[.int .i64 a, .int .i64 b, .int .i64 n]
  | 7 => v = .slice (some ⟨gy, 0, none⟩) ny cy
  | 8 => v = .agg #[.int .i64 p.f0, .int .i64 p.f1, .string p.f2]
  | 9 => v = .agg #[.int .i64 p.f0, .int .i64 p.f1, .string p.f2]
  | 10 => v = .bool true
  | 11 => v = .bool true
  | 12 => v = .bool true
  | 13 => v = .bool true
  | 14 => v = .bool true
  | 15 => v = .bool true
  | _ => True
theorem bndRel25.stable (gx nx cx gy ny cy : Nat) (p : S35) (a b n : Int) : ∀ i v X Y, Below X.heap.size X Y → bndRel25 gx nx cx gy ny cy p a b n i v X → bndRel25 gx nx cx gy ny cy p a b n i v Y := by
  intro i v X Y hb h
  match i, h with
  | 0, h => exact h
  | 1, h => exact h
  | 2, h => exact h
  | 3, h => exact h
  | 4, h => exact h
  | 5, h => exact h
  | 6, h => exact h
  | 7, h => exact h
  | 8, h => exact h
  | 9, h => exact h
  | 10, h => exact h
  | 11, h => exact h
  | 12, h => exact h
  | 13, h => exact h
  | 14, h => exact h
  | 15, h => exact h
  | i + 16, _ => exact trivial
set_option maxRecDepth 100000 in
set_option maxHeartbeats 16000000 in
theorem chapmanlaw32_PartitionBounds.calls (A0 : Option Addr) (c0 : Nat) (l0 : List Int) (b0 b1 b2 : Int) (A1 : Option Addr) (c1 : Nat) (l1 : List Int) (A2 : Option Addr) (c2 : Nat) (l2 : List Int) (w : World) (hG : LaidN w)
    (hr0 : Kd.C (Kd.int .u8) w A0 l0.length l0) (hc0 : l0.length ≤ c0) (hr1 : Kd.C (Kd.int .u8) w A1 l1.length l1) (hc1 : l1.length ≤ c1) (hr2 : Kd.C (Kd.int .u8) w A2 l2.length l2) (hc2 : l2.length ≤ c2)
    (hb0 : 0 ≤ b0 ∧ b0 < 256) (hb1 : 0 ≤ b1 ∧ b1 < 256) (hb2 : 0 ≤ b2 ∧ b2 < 256) (hl1 : ∀ x ∈ l1, 0 ≤ x ∧ x < 256) (hl2 : ∀ x ∈ l2, 0 ≤ x ∧ x < 256)
    (T : List S63) (hT : chapmanref11_Types.f 100 l0 = some T) (hTl : T.length ≤ 1000) (a b n : Int) (hs : chapmanref32_Made.f T b0 b1 b2 = ⟨a, b, n⟩) (xs ys : List S35) (hxs : RowOf 100 T l1 xs) (hys : RowOf 100 T l2 ys)
    (p : S35) (hp : partition_Of.f 100 a b n xs = some (p.f0, p.f1, p.f2)) (L : List S82) (hL : partition_Bounds.f 100 T a b n p.f0 p.f1 p.f2 = some (L, 0)) (hLl : L.length = T.length)
    (hcol : ∀ j : Nat, j < T.length → OkB (L.getD j z82) ∧ HasB (L.getD j z82) (rd_T35 xs j) true)
    (hk : a = 1 ∨ a = 3 → ∃ m : Nat, b = (m : Int) ∧ m < T.length ∧ (∃ (r : Bool) (q : S35), HasB (L.getD m z82) (rd_T35 ys m) r ∧ partition_Of.f 100 a b n ys = some (q.f0, q.f1, q.f2) ∧ (q.f0 == p.f0 && (q.f1 == p.f1 && (q.f2.toList == p.f2.toList))) = r) ∧
      ((L.getD m z82).f1 = false → rd_T35 xs m = z35) ∧ ((L.getD m z82).f1 = true → partition_Of.f 100 a b n (xs.set m (L.getD m z82).f2) = some (p.f0, p.f1, p.f2) ∧ partition_Of.f 100 a b n (ys.set m (L.getD m z82).f3) = some (p.f0, p.f1, p.f2))) :
    Calls Tryz.prog 7 #[.slice A0 l0.length c0, .agg #[.int .u8 b0, .int .u8 b1, .int .u8 b2], .agg #[.slice A1 l1.length c1, .slice A2 l2.length c2]] w fun e w' => e = .returned (.bool true) ∧ Below w.heap.size w w' := by
  have hu27 := Tryz.underlying27
  have hu29 := Tryz.underlying29
  have hu23 := Tryz.underlying23
  have hu22 := Tryz.underlying22
  have hu25 := Tryz.underlying25
  have hu63 := Tryz.underlying63
  have hu35 := Tryz.underlying35
  have hu28 := Tryz.underlying28
  have HGl := Lib.hid hG
  have HR0 := Lib.hid hr0
  have HR1 := Lib.hid hr1
  have HR2 := Lib.hid hr2
  have HL1 := Lib.hid hl1
  have HL2 := Lib.hid hl2
  have HT := Lib.hid hT
  have HTL : RowKit.Hid (T.length ≤ 100000) := Lib.hid (by omega)
  have HTM : RowKit.Hid (T.length ≤ 1000000) := Lib.hid (by omega)
  have HS := Lib.hid hs
  have HXS := Lib.hid hxs
  have HYS := Lib.hid hys
  have HP := Lib.hid hp
  have HBD := Lib.hid hL
  have HLL := Lib.hid hLl
  have HCOL := Lib.hid hcol
  have hu56 := Tryz.underlying56
  have hu54 := Tryz.underlying54
  have hu53 := Tryz.underlying53
  have hu82 := Tryz.underlying82
  have HK := Lib.hid hk
  have HB0 := Lib.hid hb0
  have HB1 := Lib.hid hb1
  have HB2 := Lib.hid hb2
  have HLX : RowKit.Hid (xs.length = T.length) := Lib.hid hxs.1
  have HLY : RowKit.Hid (ys.length = T.length) := Lib.hid hys.1
  clear hG hr0 hr1 hr2 hl1 hl2 hT hTl hs hxs hys hp hL hLl hcol hk hb0 hb1 hb2
  go_enter Tryz.func7, Tryz.ntmps7
  go_wp2_with fail
  have E0 := blk_alloc (heap_alloc_new w (.cells #[.int .u8 b0, .int .u8 b1, .int .u8 b2] 29)) (.cells #[.slice A1 l1.length c1, .slice A2 l2.length c2] 23)
  have E1 := heap_alloc_new (w.alloc (.cells #[.int .u8 b0, .int .u8 b1, .int .u8 b2] 29)) (.cells #[.slice A1 l1.length c1, .slice A2 l2.length c2] 23)
  have hB := below_alloc (below_alloc (Below.refl w.heap.size w) (.cells #[.int .u8 b0, .int .u8 b1, .int .u8 b2] 29)) (.cells #[.slice A1 l1.length c1, .slice A2 l2.length c2] 23)
  simp only [World.size_alloc] at E1
  generalize (w.alloc (.cells #[.int .u8 b0, .int .u8 b1, .int .u8 b2] 29)).alloc (.cells #[.slice A1 l1.length c1, .slice A2 l2.length c2] 23) = W at *
  refine (chapmanlaw32_examples.calls W (HGl.out.below hB).l).mono ?_
  rintro e w1 ⟨rfl, hb⟩
  have HB := Lib.hid (below_step hB hb)
  replace E0 := blk_below E0 hb
  replace E1 := blk_below E1 hb
  have HE0 := Lib.hid E0
  have HE1 := Lib.hid E1
  clear hb hB E0 E1 W
  go_wp2_with fail
  refine (chapmanref11_Types.calls 100 A0 c0 l0 T w1 (Kd.C_below HR0.out HB.out) hc0 HT.out).mono ?_
  rintro e w2 ⟨v0, rfl, hR, hb⟩
  have hV : Kd.V k63 63 w2 w2.heap.size (fun _ => True) v0 T := Kd.R_V hR
  obtain ⟨AT, cT, rfl⟩ := Kd.V_slice hV
  obtain ⟨_, hcT, hCT⟩ := Kd.V_reads' hV
  replace HB := Lib.hid (below_step HB.out hb)
  have E0 := blk_below HE0.out hb
  have HA := Lib.hid (show MonA A1 c1 l1 A2 c2 l2 AT T (w.heap.size + 1) w2 from ⟨(HGl.out.below HB.out).l, hCT, Kd.C_below HR1.out HB.out, Kd.C_below HR2.out HB.out, blk_below HE1.out hb⟩)
  have u0 : w2.cell? ⟨w.heap.size, 0, none⟩ = some (.int .u8 b0) := (blk_cell E0 0).trans rfl
  have u1 : w2.cell? ⟨w.heap.size, 1, none⟩ = some (.int .u8 b1) := (blk_cell E0 1).trans rfl
  have u2 : w2.cell? ⟨w.heap.size, 2, none⟩ = some (.int .u8 b2) := (blk_cell E0 2).trans rfl
  clear hb hR hV hCT HE0 HE1 E0 HR0 HR1 HR2 HT w1
  go_wp2_with fail
  have hm := chapmanref32_Made.calls AT cT T b0 b1 b2 w2 HA.out.2.1 HTM.out HB0.out HB1.out HB2.out
  rw [HS.out] at hm
  refine hm.mono ?_
  rintro e w3 ⟨rfl, hb⟩
  replace HA := Lib.hid ((HA.out.below hb).below (below_alloc (Below.refl w3.heap.size w3) (.cells #[.int .i64 a, .int .i64 b, .int .i64 n] 27)))
  have HE9 := Lib.hid (heap_alloc_new w3 (.cells #[.int .i64 a, .int .i64 b, .int .i64 n] 27))
  replace HB := Lib.hid (below_alloc (below_step HB.out hb) (.cells #[.int .i64 a, .int .i64 b, .int .i64 n] 27))
  clear hb hm u0 u1 u2 HS HB0 HB1 HB2
  simp only [v27]
  go_wp2_with fail
  generalize w3.alloc (.cells #[.int .i64 a, .int .i64 b, .int .i64 n] 27) = W at *
  generalize w3.heap.size = b9 at *
  have HWW := Lib.hid HB.out.size
  clear w3 w2
  refine wp_region_rel 10 152 (monRel6 W.heap.size (w.heap.size + 1) AT T.length cT A1 l1.length c1 A2 l2.length c2 xs ys) noApart (by kernel_rfl) (by kernel_rfl) (by rfl) (monRel6.stable _ _ _ _ _ _ _ _ _ _ _ _ _) ?_ ?_
  · intro vals X hX
    have hHX := HA.out.below hX
    have HX := Lib.hid hHX
    have HN := Lib.hid hX.size
    have v0 : X.cell? ⟨w.heap.size + 1, 0, none⟩ = some (.slice A1 l1.length c1) := (blk_cell hHX.2.2.2.2 0).trans rfl
    have v1 : X.cell? ⟨w.heap.size + 1, 1, none⟩ = some (.slice A2 l2.length c2) := (blk_cell hHX.2.2.2.2 1).trans rfl
    clear hX hHX HB HA HE9
    simp only [putAll, Act.put, RelSteps, List.take_succ_cons, List.take_zero, List.setIfInBounds_toArray, List.set_cons_succ, List.set_cons_zero, Option.getD_some, Nat.zero_add, Nat.reduceAdd]
    refine ⟨fun hd => ?_, fun hd => ?_, fun hd => ?_, fun hd => ?_, fun hd => ?_, fun hd => ?_, fun hd => ?_, fun hd => ?_, fun hd => ?_, fun hd => ?_, trivial⟩
    · clear hd
      go_wp2_with fail
      exact rel_done rfl _ rfl (by first | rfl | exact e0 | (simp [*]; done)) noApart_all (Below.refl _ _)
    · clear hd
      go_wp2_with fail
      exact rel_done rfl _ rfl rfl noApart_all (Below.refl _ _)
    · have e1 : vals 1 = _ := hd 1 (by kernel_rfl)
      clear hd
      go_wp2_with fail
      exact rel_done rfl _ rfl rfl noApart_all (Below.refl _ _)
    · have e0 : vals 0 = _ := hd 0 (by kernel_rfl)
      have e2 : vals 2 = _ := hd 2 (by kernel_rfl)
      clear hd
      go_wp2_with fail
      refine (chapmanref11_Row.calls 100 AT cT T A1 c1 l1 xs _ HX.out.2.1 HTL.out HX.out.2.2.1 hc1 HL1.out HXS.out).mono ?_
      rintro e w2 ⟨v, rfl, ho, hb⟩
      go_wp2_with fail
      exact rel_done rfl _ rfl (own_less ho HN.out) noApart_all hb
    · clear hd
      go_wp2_with fail
      exact rel_done rfl _ rfl (by first | rfl | exact e0 | (simp [*]; done)) noApart_all (Below.refl _ _)
    · clear hd
      go_wp2_with fail
      exact rel_done rfl _ rfl rfl noApart_all (Below.refl _ _)
    · have e5 : vals 5 = _ := hd 5 (by kernel_rfl)
      clear hd
      go_wp2_with fail
      exact rel_done rfl _ rfl rfl noApart_all (Below.refl _ _)
    · have r3 := hd 3 (by kernel_rfl)
      have e4 : vals 4 = _ := hd 4 (by kernel_rfl)
      have e6 : vals 6 = _ := hd 6 (by kernel_rfl)
      clear hd
      skip
      go_wp2_with fail
      refine (chapmanref11_Row.calls 100 AT cT T A2 c2 l2 ys _ HX.out.2.1 HTL.out HX.out.2.2.2.1 hc2 HL2.out HYS.out).mono ?_
      rintro e w2 ⟨v, rfl, ho, hb⟩
      go_wp2_with fail
      exact rel_done rfl _ rfl (own_less ho HN.out) noApart_all hb
    · have r3 := hd 3 (by kernel_rfl)
      have r7 := hd 7 (by kernel_rfl)
      clear hd
      skip
      skip
      go_wp2_with fail
      exact rel_done rfl _ rfl r3 noApart_all (Below.refl _ _)
    · have r7 := hd 7 (by kernel_rfl)
      have r8 := hd 8 (by kernel_rfl)
      clear hd
      skip
      skip
      go_wp2_with fail
      exact rel_done rfl _ rfl r7 noApart_all (Below.refl _ _)
  · intro vals X hX hv _
    have e8 := hv 8 (by decide)
    have e9 := hv 9 (by decide)
    replace e8 : OwnV W.heap.size xs (vals 8) X := e8
    replace e9 : OwnV W.heap.size ys (vals 9) X := e9
    obtain ⟨Ax, cx, q8, hcx, hCX⟩ := row_reads e8
    obtain ⟨Ay, cy, q9, hcy, hCY⟩ := row_reads e9
    rw [q8] at e8
    rw [q9] at e9
    have HMB := Lib.hid (show MonB W.heap.size AT T b9 a b n (.slice Ax xs.length cx) (.slice Ay ys.length cy) xs ys X from ⟨(HA.out.below hX).1, (HA.out.below hX).2.1, blk_below HE9.out hX, e8, e9⟩)
    have HCX := Lib.hid hCX
    have HCY := Lib.hid hCY
    replace HB := Lib.hid (below_step HB.out hX)
    clear hv hX HA HE9 e8 e9 hCX hCY HXS HYS HL1 HL2
    simp only [putAll, Act.put, List.take_succ_cons, List.take_zero, List.drop_succ_cons, List.drop_zero, List.setIfInBounds_toArray, List.set_cons_succ, List.set_cons_zero, Option.getD_some, Nat.zero_add, Nat.reduceAdd]
    simp only [q8, q9]
    clear q8 q9
    obtain ⟨k0, k1, k2⟩ := HMB.out.spec
    go_wp2_with fail
    refine (partition_Of.calls 100 a b n Ax cx xs p.f0 p.f1 p.f2 _ HCX.out hcx HP.out).mono ?_
    rintro e w4 ⟨rfl, hb⟩
    have hBx := below_step hb (below_alloc (Below.refl w4.heap.size w4) (.cells #[.int .i64 p.f0, .int .i64 p.f1, .string p.f2] 35))
    have HAX := Lib.hid (fun (g : Nat) (e : Ax = some ⟨g, 0, none⟩) => show w4.heap.size ≠ g from fun e' => by have := OwnV.lt (e ▸ (HMB.out.below hb).2.2.2.1); omega)
    have HAY := Lib.hid (fun (g : Nat) (e : Ay = some ⟨g, 0, none⟩) => show w4.heap.size ≠ g from fun e' => by have := OwnV.lt (e ▸ (HMB.out.below hb).2.2.2.2); omega)
    replace HMB := Lib.hid (HMB.out.below hBx)
    replace HB := Lib.hid (below_step HB.out hBx)
    have HQ12 := Lib.hid (heap_alloc_new w4 (.cells #[.int .i64 p.f0, .int .i64 p.f1, .string p.f2] 35))
    clear k0 k1 k2 hb hBx HCX HCY HP
    obtain ⟨k0, k1, k2⟩ := HMB.out.spec
    obtain ⟨m0, m1, m2⟩ := cell35 HQ12.out
    go_wp2_with fail
    generalize w4.alloc (.cells #[.int .i64 p.f0, .int .i64 p.f1, .string p.f2] 35) = W8 at *
    generalize w4.heap.size = b12 at *
    refine (chapmanlaw32_bounded.calls 100 AT cT T a b n p.f0 p.f1 p.f2 L 0 W8 HMB.out.2.1 hcT HMB.out.1 HBD.out).mono ?_
    rintro e w5 ⟨AL, cL, rfl, -, hcL, hb, hLL⟩
    rw [HLL.out] at hcL ⊢
    have hBx := below_step hb (below_alloc (Below.refl w5.heap.size w5) (.cells #[.slice AL T.length cL, .int .i64 0] 56))
    replace HB := Lib.hid (below_step HB.out hBx)
    have HD := Lib.hid (show BndD W.heap.size AT T b9 a b n (.slice Ax xs.length cx) (.slice Ay ys.length cy) xs ys b12 w5.heap.size p AL cL L (w5.alloc (.cells #[.slice AL T.length cL, .int .i64 0] 56)) from ⟨HMB.out.below hBx, HGl.out.below HB.out, blk_below HQ12.out hBx, heap_alloc_new _ _, hLL.below (below_alloc (Below.refl w5.heap.size w5) _)⟩)
    clear k0 k1 k2 m0 m1 m2 hb hBx hLL HMB HQ12 HBD W8 X w4
    obtain ⟨k0, k1, k2⟩ := HD.out.1.spec
    have m0 : (w5.alloc (.cells #[.slice AL T.length cL, .int .i64 0] 56)).cell? ⟨w5.heap.size, 0, none⟩ = some (.slice AL T.length cL) := (blk_cell HD.out.2.2.2.1 0).trans rfl
    have m1 : (w5.alloc (.cells #[.slice AL T.length cL, .int .i64 0] 56)).cell? ⟨w5.heap.size, 1, none⟩ = some (.int .i64 0) := (blk_cell HD.out.2.2.2.1 1).trans rfl
    have hnl : ((T.length : Int) != (T.length : Int)) = false := by simp
    go_wp2
    generalize w5.alloc (.cells #[.slice AL T.length cL, .int .i64 0] 56) = W9 at *
    generalize w5.heap.size = b13 at *
    clear m0 m1 k0 k1 k2 w5 hnl
    go_loopw [14] (fun s14 wr => ∃ j : Nat, s14 = .int .i64 j ∧ j ≤ T.length ∧ Below W9.heap.size W9 wr) (fun s14 _ => T.length - (intOf s14).toNat)
    case atStart => exact ⟨0, rfl, Nat.zero_le _, Below.refl _ _⟩
    case round =>
      obtain ⟨j, rfl, hj, hX⟩ := hrel
      replace HB := Lib.hid (below_step HB.out hX)
      replace HD := Lib.hid (HD.out.below hX)
      by_cases hlt : j < T.length
      · have hd : decide ((j : Int) < (T.length : Int)) = true := decide_eq_true (by omega)
        obtain ⟨gL, rfl, hRL⟩ := HD.out.2.2.2.2.at (show j < L.length by rw [HLL.out]; exact hlt)
        have hn1 : 0 < xs.length := by rw [HLX.out]; omega
        obtain ⟨gx, rfl, hgx⟩ := HD.out.1.2.2.2.1.at0 hn1
        have hjx : j < xs.length := by rw [HLX.out]; exact hlt
        have hjL : j < L.length := by rw [HLL.out]; exact hlt
        obtain ⟨hok, hhas⟩ := HCOL.out j hlt
        obtain ⟨x, hx⟩ : ∃ x, L.getD j z82 = x := ⟨_, rfl⟩
        rw [hx] at hok hhas
        have HOK := Lib.hid hok
        have HHAS := Lib.hid hhas
        have HXX := Lib.hid hx
        have HLT : RowKit.Hid ((j : Int) < (T.length : Int) ∧ (j : Int) < (xs.length : Int)) := Lib.hid (by omega)
        obtain ⟨vx, hvx⟩ : ∃ vx, rd_T35 xs (j : Int) = vx := ⟨_, rfl⟩
        rw [hvx] at HHAS
        have HVX := Lib.hid hvx
        clear hok hhas hx hvx hRL hn1 hgx
        go_wp2_with fail
        refine wp_region_rel 20 152 (bndRel14 b13 gL T.length cL gx xs.length cx j x vx) noApart (by kernel_rfl) (by kernel_rfl) (by rfl) (bndRel14.stable _ _ _ _ _ _ _ _ _ _) ?_ ?_
        · intro vals X hXX
          have hHX := HD.out.below hXX
          have HX := Lib.hid hHX
          obtain ⟨g', eg, hRL⟩ := hHX.2.2.2.2.at hjL
          injection eg with eg
          injection eg with eg
          subst eg
          obtain ⟨t0, t1, t2, t3, t4, t5, t6, t7, t8⟩ := row82 hRL hjL HXX.out
          have m0 : X.cell? ⟨b13, 0, none⟩ = some (.slice (some ⟨gL, 0, none⟩) T.length cL) := (blk_cell hHX.2.2.2.1 0).trans rfl
          obtain ⟨x0, x1, x2⟩ := own35 hHX.1.2.2.2.1 hjx
          rw [HVX.out] at x0 x1 x2
          have hi0 : (0 : Int) ≤ (j : Int) := by omega
          have hi1 := HLT.out.1
          have hi2 := HLT.out.2
          clear hXX hHX hRL HB HD HLT
          simp only [putAll, Act.put, RelSteps, List.take_succ_cons, List.take_zero, List.setIfInBounds_toArray, List.set_cons_succ, List.set_cons_zero, Option.getD_some, Nat.zero_add, Nat.reduceAdd]
          refine ⟨fun hd => ?_, fun hd => ?_, fun hd => ?_, fun hd => ?_, fun hd => ?_, fun hd => ?_, fun hd => ?_, fun hd => ?_, fun hd => ?_, fun hd => ?_, fun hd => ?_, fun hd => ?_, fun hd => ?_, fun hd => ?_, fun hd => ?_, fun hd => ?_, fun hd => ?_, fun hd => ?_, fun hd => ?_, fun hd => ?_, trivial⟩
          · clear hd
            go_wp2_with fail
            exact rel_done rfl _ rfl rfl noApart_all (Below.refl _ _)
          · have e0 : vals 0 = _ := hd 0 (by kernel_rfl)
            clear hd
            go_wp2_with fail
            exact rel_done rfl _ rfl rfl noApart_all (Below.refl _ _)
          · clear hd
            go_wp2_with fail
            exact rel_done rfl _ rfl (by first | rfl | exact e0 | (simp [*]; done)) noApart_all (Below.refl _ _)
          · have e1 : vals 1 = _ := hd 1 (by kernel_rfl)
            have e2 : vals 2 = _ := hd 2 (by kernel_rfl)
            clear hd
            go_wp2_with fail
            exact rel_done rfl _ rfl rfl noApart_all (Below.refl _ _)
          · have e3 : vals 3 = _ := hd 3 (by kernel_rfl)
            clear hd
            go_wp2_with fail
            exact rel_done rfl _ rfl rfl noApart_all (Below.refl _ _)
          · have e4 : vals 4 = _ := hd 4 (by kernel_rfl)
            clear hd
            go_wp2_with fail
            refine (HOK.out _ HX.out.2.1).mono ?_
            rintro e w2 ⟨rfl, hb⟩
            go_wp2_with fail
            exact rel_done rfl _ rfl rfl noApart_all hb
          · have e5 : vals 5 = _ := hd 5 (by kernel_rfl)
            clear hd
            go_wp2_with fail
            exact rel_done rfl _ rfl rfl noApart_all (Below.refl _ _)
          · have e5 : vals 5 = _ := hd 5 (by kernel_rfl)
            have e6 : vals 6 = _ := hd 6 (by kernel_rfl)
            clear hd
            go_wp2_with fail
            exact rel_done rfl _ rfl (by first | rfl | exact e6 | (simp [*]; done)) noApart_all (Below.refl _ _)
          · have e7 : vals 7 = _ := hd 7 (by kernel_rfl)
            clear hd
            go_wp2_with fail
            exact rel_done rfl _ rfl rfl noApart_all (Below.refl _ _)
          · have e7 : vals 7 = _ := hd 7 (by kernel_rfl)
            have e8 : vals 8 = _ := hd 8 (by kernel_rfl)
            clear hd
            go_wp2_with fail
            exact rel_done rfl _ rfl rfl noApart_all (Below.refl _ _)
          · have e7 : vals 7 = _ := hd 7 (by kernel_rfl)
            clear hd
            go_wp2_with fail
            exact rel_done rfl _ rfl (by first | rfl | exact e7 | (simp [*]; done)) noApart_all (Below.refl _ _)
          · have e7 : vals 7 = _ := hd 7 (by kernel_rfl)
            have e9 : vals 9 = _ := hd 9 (by kernel_rfl)
            have e10 : vals 10 = _ := hd 10 (by kernel_rfl)
            clear hd
            go_wp2_with fail
            exact rel_done rfl _ rfl rfl noApart_all (Below.refl _ _)
          · have e7 : vals 7 = _ := hd 7 (by kernel_rfl)
            have e11 : vals 11 = _ := hd 11 (by kernel_rfl)
            clear hd
            go_wp2_with fail
            exact rel_done rfl _ rfl rfl noApart_all (Below.refl _ _)
          · have e7 : vals 7 = _ := hd 7 (by kernel_rfl)
            clear hd
            go_wp2_with fail
            exact rel_done rfl _ rfl (by first | rfl | exact e7 | (simp [*]; done)) noApart_all (Below.refl _ _)
          · have e7 : vals 7 = _ := hd 7 (by kernel_rfl)
            clear hd
            go_wp2_with fail
            exact rel_done rfl _ rfl (by first | rfl | exact e7 | (simp [*]; done)) noApart_all (Below.refl _ _)
          · have e7 : vals 7 = _ := hd 7 (by kernel_rfl)
            have e13 : vals 13 = _ := hd 13 (by kernel_rfl)
            have e14 : vals 14 = _ := hd 14 (by kernel_rfl)
            clear hd
            go_wp2_with fail
            exact rel_done rfl _ rfl rfl noApart_all (Below.refl _ _)
          · have e7 : vals 7 = _ := hd 7 (by kernel_rfl)
            have e15 : vals 15 = _ := hd 15 (by kernel_rfl)
            clear hd
            go_wp2_with fail
            exact rel_done rfl _ rfl rfl noApart_all (Below.refl _ _)
          · have e7 : vals 7 = _ := hd 7 (by kernel_rfl)
            have e12 : vals 12 = _ := hd 12 (by kernel_rfl)
            have e16 : vals 16 = _ := hd 16 (by kernel_rfl)
            clear hd
            go_wp2_with fail
            refine (HHAS.out _ HX.out.2.1).mono ?_
            rintro e w2 ⟨rfl, hb⟩
            go_wp2_with fail
            exact rel_done rfl _ rfl rfl noApart_all hb
          · have e7 : vals 7 = _ := hd 7 (by kernel_rfl)
            have e17 : vals 17 = _ := hd 17 (by kernel_rfl)
            clear hd
            go_wp2_with fail
            exact rel_done rfl _ rfl rfl noApart_all (Below.refl _ _)
          · have e7 : vals 7 = _ := hd 7 (by kernel_rfl)
            have e18 : vals 18 = _ := hd 18 (by kernel_rfl)
            clear hd
            go_wp2_with fail
            exact rel_done rfl _ rfl rfl noApart_all (Below.refl _ _)
        · intro vals X hXX hv _
          have e19 : vals 19 = _ := hv 19 (by decide)
          have hXY := below_step hX hXX
          clear hv HB HD HOK HHAS HXX HVX HLT hXX
          simp only [putAll, Act.put, List.take_succ_cons, List.take_zero, List.drop_succ_cons, List.drop_zero, List.setIfInBounds_toArray, List.set_cons_succ, List.set_cons_zero, Option.getD_some, Nat.zero_add, Nat.reduceAdd]
          simp only [e19]
          clear e19
          go_wp2
          exact round_end hlt HTL.out hXY
      · have hd : decide ((j : Int) < (T.length : Int)) = false := decide_eq_false (by omega)
        obtain ⟨k0, k1, k2⟩ := HD.out.1.spec
        by_cases ha : a = 1 ∨ a = 3
        · obtain ⟨m, rfl, hm, ⟨r, q, hhy, hoy, heq⟩, hzz, hput⟩ := HK.out ha
          have hmx : m < xs.length := by rw [HLX.out]; exact hm
          have hmy : m < ys.length := by rw [HLY.out]; exact hm
          have hmL : m < L.length := by rw [HLL.out]; exact hm
          obtain ⟨gL, rfl, hRL⟩ := HD.out.2.2.2.2.at hmL
          obtain ⟨gx, rfl, hgx⟩ := HD.out.1.2.2.2.1.at0 (show 0 < xs.length by omega)
          obtain ⟨gy, rfl, hgy⟩ := HD.out.1.2.2.2.2.at0 (show 0 < ys.length by omega)
          obtain ⟨x, hx⟩ : ∃ x, L.getD m z82 = x := ⟨_, rfl⟩
          rw [hx] at hhy hzz hput
          obtain ⟨vy, hvy⟩ : ∃ vy, rd_T35 ys (m : Int) = vy := ⟨_, rfl⟩
          rw [hvy] at hhy
          have HHY := Lib.hid hhy
          have HXX := Lib.hid hx
          have HVY := Lib.hid hvy
          have HEQ := Lib.hid heq
          have HZZ := Lib.hid hzz
          have HPUT := Lib.hid hput
          have HGX := Lib.hid (Nat.le_trans HWW.out hgx)
          have HGY := Lib.hid (Nat.le_trans HWW.out hgy)
          have HLT : RowKit.Hid ((m : Int) < (T.length : Int) ∧ (m : Int) < (xs.length : Int) ∧ (m : Int) < (ys.length : Int)) := Lib.hid (by omega)
          have HOY := Lib.hid (fun (X : World) (h : MonB W.heap.size AT T b9 a (m : Int) n (.slice (some ⟨gx, 0, none⟩) xs.length cx) (.slice (some ⟨gy, 0, none⟩) ys.length cy) xs ys X) => partition_Of.calls 100 a (m : Int) n (some ⟨gy, 0, none⟩) cy ys q.f0 q.f1 q.f2 X h.2.2.2.2.reads.1 h.2.2.2.2.reads.2 hoy)
          clear hhy hoy heq hzz hput hx hvy hRL hgx hgy HK
          have hcase : ((a != 1) = false ∧ (a == 1) = true) ∨ ((a != 1) = true ∧ (a == 1) = false ∧ (a != 3) = false ∧ (a == 3) = true) := by rcases ha with rfl | rfl <;> decide
          clear ha
          rcases hcase with ⟨n1, n2⟩ | ⟨n1, n2, n3, n4⟩
          all_goals
            go_wp2_with fail
            clear k0 k1 k2 hd
            refine wp_region_rel 16 152 (bndRel19 b13 gL T.length cL gy ys.length cy m x vy p q a (m : Int) n r) noApart (by kernel_rfl) (by kernel_rfl) (by rfl) (bndRel19.stable _ _ _ _ _ _ _ _ _ _ _ _ _ _ _ _) ?_ ?_
            · intro vals X hXX
              have hHX := HD.out.below hXX
              have HX := Lib.hid hHX
              obtain ⟨g', eg, hRL⟩ := hHX.2.2.2.2.at hmL
              injection eg with eg
              injection eg with eg
              subst eg
              obtain ⟨t0, t1, t2, t3, t4, t5, t6, t7, t8⟩ := row82 hRL hmL HXX.out
              have m0 : X.cell? ⟨b13, 0, none⟩ = some (.slice (some ⟨gL, 0, none⟩) T.length cL) := (blk_cell hHX.2.2.2.1 0).trans rfl
              obtain ⟨y0, y1, y2⟩ := own35 hHX.1.2.2.2.2 hmy
              rw [HVY.out] at y0 y1 y2
              obtain ⟨k0, k1, k2⟩ := hHX.1.spec
              obtain ⟨m3, m4, m5⟩ := cell35 hHX.2.2.1
              have hi0 : (0 : Int) ≤ (m : Int) := by omega
              have hi1 := HLT.out.1
              have hi2 := HLT.out.2.2
              clear hXX hHX hRL HB HD HLT
              simp only [putAll, Act.put, RelSteps, List.take_succ_cons, List.take_zero, List.setIfInBounds_toArray, List.set_cons_succ, List.set_cons_zero, Option.getD_some, Nat.zero_add, Nat.reduceAdd]
              refine ⟨fun hd => ?_, fun hd => ?_, fun hd => ?_, fun hd => ?_, fun hd => ?_, fun hd => ?_, fun hd => ?_, fun hd => ?_, fun hd => ?_, fun hd => ?_, fun hd => ?_, fun hd => ?_, fun hd => ?_, fun hd => ?_, fun hd => ?_, fun hd => ?_, trivial⟩
              · clear hd
                go_wp2_with fail
                exact rel_done rfl _ rfl rfl noApart_all (Below.refl _ _)
              · have e0 : vals 0 = _ := hd 0 (by kernel_rfl)
                clear hd
                go_wp2_with fail
                exact rel_done rfl _ rfl rfl noApart_all (Below.refl _ _)
              · clear hd
                go_wp2_with fail
                exact rel_done rfl _ rfl (by first | rfl | exact e0 | (simp [*]; done)) noApart_all (Below.refl _ _)
              · have e1 : vals 1 = _ := hd 1 (by kernel_rfl)
                have e2 : vals 2 = _ := hd 2 (by kernel_rfl)
                clear hd
                go_wp2_with fail
                exact rel_done rfl _ rfl rfl noApart_all (Below.refl _ _)
              · have e3 : vals 3 = _ := hd 3 (by kernel_rfl)
                clear hd
                go_wp2_with fail
                exact rel_done rfl _ rfl rfl noApart_all (Below.refl _ _)
              · clear hd
                go_wp2_with fail
                exact rel_done rfl _ rfl (by first | rfl | exact e0 | (simp [*]; done)) noApart_all (Below.refl _ _)
              · clear hd
                go_wp2_with fail
                exact rel_done rfl _ rfl (by first | rfl | exact e0 | (simp [*]; done)) noApart_all (Below.refl _ _)
              · have e5 : vals 5 = _ := hd 5 (by kernel_rfl)
                have e6 : vals 6 = _ := hd 6 (by kernel_rfl)
                clear hd
                go_wp2_with fail
                exact rel_done rfl _ rfl rfl noApart_all (Below.refl _ _)
              · have e7 : vals 7 = _ := hd 7 (by kernel_rfl)
                clear hd
                go_wp2_with fail
                exact rel_done rfl _ rfl rfl noApart_all (Below.refl _ _)
              · have e4 : vals 4 = _ := hd 4 (by kernel_rfl)
                have e8 : vals 8 = _ := hd 8 (by kernel_rfl)
                clear hd
                go_wp2_with fail
                refine (HHY.out _ HX.out.2.1).mono ?_
                rintro e w2 ⟨rfl, hb⟩
                go_wp2_with fail
                exact rel_done rfl _ rfl rfl noApart_all hb
              · clear hd
                go_wp2_with fail
                exact rel_done rfl _ rfl rfl noApart_all (Below.refl _ _)
              · clear hd
                go_wp2_with fail
                exact rel_done rfl _ rfl (by first | rfl | exact e0 | (simp [*]; done)) noApart_all (Below.refl _ _)
              · have e9 : vals 9 = _ := hd 9 (by kernel_rfl)
                have e10 : vals 10 = _ := hd 10 (by kernel_rfl)
                have e11 : vals 11 = _ := hd 11 (by kernel_rfl)
                clear hd
                go_wp2_with fail
                refine (HOY.out _ HX.out.1).mono ?_
                rintro e w2 ⟨rfl, hb⟩
                go_wp2_with fail
                exact rel_done rfl _ rfl rfl noApart_all hb
              · clear hd
                go_wp2_with fail
                exact rel_done rfl _ rfl rfl noApart_all (Below.refl _ _)
              · have e12 : vals 12 = _ := hd 12 (by kernel_rfl)
                have e13 : vals 13 = _ := hd 13 (by kernel_rfl)
                clear hd
                go_wp2_with fail
                exact rel_done rfl _ rfl (congrArg Value.bool HEQ.out) noApart_all (Below.refl _ _)
              · have e9 : vals 9 = _ := hd 9 (by kernel_rfl)
                have r14 := hd 14 (by kernel_rfl)
                clear hd
                skip
                have e14 : vals 14 = _ := r14
                go_wp2_with fail
                exact rel_done rfl _ rfl (by show _ = _; cases r <;> rfl) noApart_all (Below.refl _ _)
            · intro vals X hXX hv _
              have e15 : vals 15 = _ := hv 15 (by decide)
              replace HB := Lib.hid (below_step HB.out hXX)
              replace HD := Lib.hid (HD.out.below hXX)
              clear hv hXX HOY HHY HVY HEQ
              simp only [putAll, Act.put, List.take_succ_cons, List.take_zero, List.drop_succ_cons, List.drop_zero, List.setIfInBounds_toArray, List.set_cons_succ, List.set_cons_zero, Option.getD_some, Nat.zero_add, Nat.reduceAdd]
              simp only [e15]
              clear e15
              obtain ⟨g', eg, hRL⟩ := HD.out.2.2.2.2.at hmL
              injection eg with eg
              injection eg with eg
              subst eg
              obtain ⟨t0, t1, t2, t3, t4, t5, t6, t7, t8⟩ := row82 hRL hmL HXX.out
              have m0 : X.cell? ⟨b13, 0, none⟩ = some (.slice (some ⟨gL, 0, none⟩) T.length cL) := (blk_cell HD.out.2.2.2.1 0).trans rfl
              have hi0 : (0 : Int) ≤ (m : Int) := by omega
              obtain ⟨hi1, hi2, hi3⟩ := HLT.out
              cases hf : x.f1 with
              | false =>
                have HZ := Lib.hid (HZZ.out hf)
                rw [hf] at t1
                clear HZZ HPUT
                go_wp2_with fail
                clear t0 t1 t2 t3 t4 t5 t6 t7 t8 m0 hRL
                refine wp_region_rel 10 152 (bndRel22 gx xs.length cx m) noApart (by kernel_rfl) (by kernel_rfl) (by rfl) (bndRel22.stable _ _ _ _) ?_ ?_
                · intro vals X hXX
                  obtain ⟨x0, x1, x2⟩ := own35 (HD.out.below hXX).1.2.2.2.1 hmx
                  rw [HZ.out] at x0 x1 x2
                  simp only [z35] at x0 x1 x2
                  clear hXX HD HB
                  simp only [putAll, Act.put, RelSteps, List.take_succ_cons, List.take_zero, List.setIfInBounds_toArray, List.set_cons_succ, List.set_cons_zero, Option.getD_some, Nat.zero_add, Nat.reduceAdd]
                  refine ⟨fun hd => ?_, fun hd => ?_, fun hd => ?_, fun hd => ?_, fun hd => ?_, fun hd => ?_, fun hd => ?_, fun hd => ?_, fun hd => ?_, fun hd => ?_, trivial⟩
                  · clear hd
                    go_wp2_with fail
                    exact rel_done rfl _ rfl (by first | rfl | exact e0 | (simp [*]; done)) noApart_all (Below.refl _ _)
                  · clear hd
                    go_wp2_with fail
                    exact rel_done rfl _ rfl (by first | rfl | exact e0 | (simp [*]; done)) noApart_all (Below.refl _ _)
                  · have e0 : vals 0 = _ := hd 0 (by kernel_rfl)
                    have e1 : vals 1 = _ := hd 1 (by kernel_rfl)
                    clear hd
                    go_wp2_with fail
                    exact rel_done rfl _ rfl rfl noApart_all (Below.refl _ _)
                  · have e2 : vals 2 = _ := hd 2 (by kernel_rfl)
                    clear hd
                    go_wp2_with fail
                    exact rel_done rfl _ rfl rfl noApart_all (Below.refl _ _)
                  · clear hd
                    go_wp2_with fail
                    refine (chapmanref06_Null.calls 0 0 ⟨#[]⟩ _ rfl).mono ?_
                    rintro e w2 ⟨rfl, hb⟩
                    go_wp2_with fail
                    exact rel_done rfl _ rfl rfl noApart_all hb
                  · have e3 : vals 3 = _ := hd 3 (by kernel_rfl)
                    have e4 : vals 4 = _ := hd 4 (by kernel_rfl)
                    clear hd
                    go_wp2_with fail
                    exact rel_done rfl _ rfl rfl noApart_all (Below.refl _ _)
                  · have e4 : vals 4 = _ := hd 4 (by kernel_rfl)
                    have e5 : vals 5 = _ := hd 5 (by kernel_rfl)
                    clear hd
                    go_wp2_with fail
                    exact rel_done rfl _ rfl (by first | rfl | exact e5 | (simp [*]; done)) noApart_all (Below.refl _ _)
                  · have e6 : vals 6 = _ := hd 6 (by kernel_rfl)
                    clear hd
                    go_wp2_with fail
                    exact rel_done rfl _ rfl (by first | rfl | exact e6 | (simp [*]; done)) noApart_all (Below.refl _ _)
                  · have e6 : vals 6 = _ := hd 6 (by kernel_rfl)
                    have e7 : vals 7 = _ := hd 7 (by kernel_rfl)
                    clear hd
                    go_wp2_with fail
                    exact rel_done rfl _ rfl rfl noApart_all (Below.refl _ _)
                  · have e6 : vals 6 = _ := hd 6 (by kernel_rfl)
                    have e8 : vals 8 = _ := hd 8 (by kernel_rfl)
                    clear hd
                    go_wp2_with fail
                    exact rel_done rfl _ rfl (by first | rfl | exact e8 | (simp [*]; done)) noApart_all (Below.refl _ _)
                · intro vals X hXX hv _
                  have e9 : vals 9 = _ := hv 9 (by decide)
                  have hB3 := below_step HB.out hXX
                  clear hv hXX
                  simp only [putAll, Act.put, List.take_succ_cons, List.take_zero, List.drop_succ_cons, List.drop_zero, List.setIfInBounds_toArray, List.set_cons_succ, List.set_cons_zero, Option.getD_some, Nat.zero_add, Nat.reduceAdd]
                  simp only [e9]
                  clear e9
                  go_wp2_with fail
                  go_ret
                  exact ⟨rfl, hB3⟩
              | true =>
                obtain ⟨q1, q2⟩ := HPUT.out hf
                rw [hf] at t1
                obtain ⟨xs', ys', lx, ly, o1, o2, w1, w2⟩ := two_put (lo := x.f2) (hi := x.f3) (Q := fun l => partition_Of.f 100 a (m : Int) n l = some (p.f0, p.f1, p.f2)) HD.out.1.2.2.2.1 HD.out.1.2.2.2.2 (HLX.out.trans HLY.out.symm) hmx q1 q2
                obtain ⟨curx, hcurx⟩ := HD.out.1.2.2.2.1.blk
                obtain ⟨cury, hcury⟩ := HD.out.1.2.2.2.2.blk
                have hLx : gL ≠ gx := blk_ne hRL hcurx (by decide)
                have hxL : gx ≠ gL := fun e => hLx e.symm
                have hLy : gL ≠ gy := blk_ne hRL hcury (by decide)
                have hbx : b13 ≠ gx := blk_ne HD.out.2.2.2.1 hcurx (by decide)
                have hxb : gx ≠ b13 := fun e => hbx e.symm
                have HZ9 := Lib.hid (putMon_far (m := m) (p := x.f3) (putMon_far (m := m) (p := x.f2) HD.out.1.2.2.1 (blk_ne HD.out.1.2.2.1 hcurx (by decide))) (blk_ne HD.out.1.2.2.1 hcury (by decide)))
                have HNX : RowKit.Hid (b12 ≠ gx ∧ b12 ≠ gy) := Lib.hid ⟨HAX.out gx rfl, HAY.out gy rfl⟩
                have HZ12 := Lib.hid (putMon_far (m := m) (p := x.f3) (putMon_far (m := m) (p := x.f2) HD.out.2.2.1 HNX.out.1) HNX.out.2)
                replace HB := Lib.hid (below_set (j := m * 3 + 2) (v := .string x.f3.f2) (below_set (j := m * 3 + 1) (v := .int .i64 x.f3.f1) (below_set (j := m * 3) (v := .int .i64 x.f3.f0) (below_set (j := m * 3 + 2) (v := .string x.f2.f2) (below_set (j := m * 3 + 1) (v := .int .i64 x.f2.f1) (below_set (j := m * 3) (v := .int .i64 x.f2.f0) HB.out HGX.out) HGX.out) HGX.out) HGY.out) HGY.out) HGY.out)
                have f0 := HD.out.1.2.2.2.1.frozen (m * 3)
                have f1 := HD.out.1.2.2.2.1.frozen (m * 3 + 1)
                have f2 := HD.out.1.2.2.2.1.frozen (m * 3 + 2)
                obtain ⟨x0, x1, x2⟩ := own35 HD.out.1.2.2.2.1 hmx
                obtain ⟨zs, lz, hz⟩ := one_put (lo := x.f2) HD.out.1.2.2.2.1 HD.out.1.2.2.2.2 (HLX.out.trans HLY.out.symm) hmx
                have HZS := Lib.hid hz
                have HRZ := Lib.hid (show RowL (putMon X gx m x.f2) gL L from putMon_far hRL hLx)
                have HBZ := Lib.hid (putMon_far (m := m) (p := x.f2) HD.out.2.2.2.1 hbx)
                clear hz
                have HOX := Lib.hid (fun (X : World) (h : OwnV W.heap.size xs' (.slice (some ⟨gx, 0, none⟩) xs.length cx) X) => show Calls Tryz.prog 20 #[.agg #[.int .i64 a, .int .i64 (m : Int), .int .i64 n], .slice (some ⟨gx, 0, none⟩) xs.length cx] X _ from by
                  rw [← lx] at h ⊢
                  exact partition_Of.calls 100 a (m : Int) n (some ⟨gx, 0, none⟩) cx xs' p.f0 p.f1 p.f2 X h.reads.1 h.reads.2 o1)
                have HOZ := Lib.hid (fun (X : World) (h : OwnV W.heap.size ys' (.slice (some ⟨gy, 0, none⟩) ys.length cy) X) => show Calls Tryz.prog 20 #[.agg #[.int .i64 a, .int .i64 (m : Int), .int .i64 n], .slice (some ⟨gy, 0, none⟩) ys.length cy] X _ from by
                  rw [← ly] at h ⊢
                  exact partition_Of.calls 100 a (m : Int) n (some ⟨gy, 0, none⟩) cy ys' p.f0 p.f1 p.f2 X h.reads.1 h.reads.2 o2)
                have HOW := Lib.hid (And.intro w1 w2)
                simp only [putMon] at HZ9 HZ12 HOW HZS HRZ HBZ
                clear w1 w2 o1 o2 q1 q2 HZZ HPUT hRL hcurx hcury HD
                go_upto_region 24 with (fail)
                clear t0 t1 t2 t3 t4 t5 t6 t7 t8 m0 f0 f1 f2 x0 x1 x2
                generalize ((X.setCell ⟨gx, m * 3, none⟩ (.int .i64 x.f2.f0)).setCell ⟨gx, m * 3 + 1, none⟩ (.int .i64 x.f2.f1)).setCell ⟨gx, m * 3 + 2, none⟩ (.string x.f2.f2) = Z at *
                obtain ⟨t0, t1, t2, t3, t4, t5, t6, t7, t8⟩ := row82 HRZ.out hmL HXX.out
                have m0 : Z.cell? ⟨b13, 0, none⟩ = some (.slice (some ⟨gL, 0, none⟩) T.length cL) := (blk_cell HBZ.out 0).trans rfl
                obtain ⟨y0, y1, y2⟩ := own35 HZS.out (show m < zs.length by omega)
                have f0 := HZS.out.frozen (m * 3)
                have f1 := HZS.out.frozen (m * 3 + 1)
                have f2 := HZS.out.frozen (m * 3 + 2)
                clear HRZ HBZ HZS hLx hxL hLy hbx hxb
                go_wp2_with fail
                clear t0 t1 t2 t3 t4 t5 t6 t7 t8 m0 y0 y1 y2 f0 f1 f2
                generalize ((Z.setCell ⟨gy, m * 3, none⟩ (.int .i64 x.f3.f0)).setCell ⟨gy, m * 3 + 1, none⟩ (.int .i64 x.f3.f1)).setCell ⟨gy, m * 3 + 2, none⟩ (.string x.f3.f2) = Y at *
                refine wp_region_rel 16 152 (bndRel25 gx xs.length cx gy ys.length cy p a (m : Int) n) noApart (by kernel_rfl) (by kernel_rfl) (by rfl) (bndRel25.stable _ _ _ _ _ _ _ _ _ _) ?_ ?_
                · intro vals X hXX
                  have HX := Lib.hid (And.intro (HOW.out.1.below hXX) (And.intro (HOW.out.2.below hXX) trivial))
                  obtain ⟨k0, k1, k2⟩ := cell27 (blk_below HZ9.out hXX)
                  obtain ⟨m3, m4, m5⟩ := cell35 (blk_below HZ12.out hXX)
                  clear hXX HB HZ9 HZ12
                  simp only [putAll, Act.put, RelSteps, List.take_succ_cons, List.take_zero, List.setIfInBounds_toArray, List.set_cons_succ, List.set_cons_zero, Option.getD_some, Nat.zero_add, Nat.reduceAdd]
                  refine ⟨fun hd => ?_, fun hd => ?_, fun hd => ?_, fun hd => ?_, fun hd => ?_, fun hd => ?_, fun hd => ?_, fun hd => ?_, fun hd => ?_, fun hd => ?_, fun hd => ?_, fun hd => ?_, fun hd => ?_, fun hd => ?_, fun hd => ?_, fun hd => ?_, trivial⟩
                  · clear hd
                    go_wp2_with fail
                    exact rel_done rfl _ rfl rfl noApart_all (Below.refl _ _)
                  · clear hd
                    go_wp2_with fail
                    exact rel_done rfl _ rfl (by first | rfl | exact e0 | (simp [*]; done)) noApart_all (Below.refl _ _)
                  · have e0 : vals 0 = _ := hd 0 (by kernel_rfl)
                    have e1 : vals 1 = _ := hd 1 (by kernel_rfl)
                    clear hd
                    go_wp2_with fail
                    refine (HOX.out _ HX.out.1).mono ?_
                    rintro e w2 ⟨rfl, hb⟩
                    go_wp2_with fail
                    exact rel_done rfl _ rfl rfl noApart_all hb
                  · clear hd
                    go_wp2_with fail
                    exact rel_done rfl _ rfl rfl noApart_all (Below.refl _ _)
                  · have e2 : vals 2 = _ := hd 2 (by kernel_rfl)
                    have e3 : vals 3 = _ := hd 3 (by kernel_rfl)
                    clear hd
                    go_wp2_with fail
                    exact rel_done rfl _ rfl rfl noApart_all (Below.refl _ _)
                  · have e2 : vals 2 = _ := hd 2 (by kernel_rfl)
                    have e4 : vals 4 = _ := hd 4 (by kernel_rfl)
                    clear hd
                    go_wp2_with fail
                    exact rel_done rfl _ rfl (by first | rfl | exact e4 | (simp [*]; done)) noApart_all (Below.refl _ _)
                  · have e5 : vals 5 = _ := hd 5 (by kernel_rfl)
                    clear hd
                    go_wp2_with fail
                    exact rel_done rfl _ rfl rfl noApart_all (Below.refl _ _)
                  · have e5 : vals 5 = _ := hd 5 (by kernel_rfl)
                    clear hd
                    go_wp2_with fail
                    exact rel_done rfl _ rfl (by first | rfl | exact e5 | (simp [*]; done)) noApart_all (Below.refl _ _)
                  · have e5 : vals 5 = _ := hd 5 (by kernel_rfl)
                    have e6 : vals 6 = _ := hd 6 (by kernel_rfl)
                    have e7 : vals 7 = _ := hd 7 (by kernel_rfl)
                    clear hd
                    go_wp2_with fail
                    refine (HOZ.out _ HX.out.2.1).mono ?_
                    rintro e w2 ⟨rfl, hb⟩
                    go_wp2_with fail
                    exact rel_done rfl _ rfl rfl noApart_all hb
                  · have e5 : vals 5 = _ := hd 5 (by kernel_rfl)
                    clear hd
                    go_wp2_with fail
                    exact rel_done rfl _ rfl rfl noApart_all (Below.refl _ _)
                  · have e5 : vals 5 = _ := hd 5 (by kernel_rfl)
                    have e8 : vals 8 = _ := hd 8 (by kernel_rfl)
                    have e9 : vals 9 = _ := hd 9 (by kernel_rfl)
                    clear hd
                    go_wp2_with fail
                    exact rel_done rfl _ rfl rfl noApart_all (Below.refl _ _)
                  · have e5 : vals 5 = _ := hd 5 (by kernel_rfl)
                    have e10 : vals 10 = _ := hd 10 (by kernel_rfl)
                    clear hd
                    go_wp2_with fail
                    exact rel_done rfl _ rfl rfl noApart_all (Below.refl _ _)
                  · have e8 : vals 8 = _ := hd 8 (by kernel_rfl)
                    have e11 : vals 11 = _ := hd 11 (by kernel_rfl)
                    clear hd
                    go_wp2_with fail
                    exact rel_done rfl _ rfl (by first | rfl | exact e11 | (simp [*]; done)) noApart_all (Below.refl _ _)
                  · have e12 : vals 12 = _ := hd 12 (by kernel_rfl)
                    clear hd
                    go_wp2_with fail
                    exact rel_done rfl _ rfl (by first | rfl | exact e12 | (simp [*]; done)) noApart_all (Below.refl _ _)
                  · have e12 : vals 12 = _ := hd 12 (by kernel_rfl)
                    have e13 : vals 13 = _ := hd 13 (by kernel_rfl)
                    clear hd
                    go_wp2_with fail
                    exact rel_done rfl _ rfl rfl noApart_all (Below.refl _ _)
                  · have e12 : vals 12 = _ := hd 12 (by kernel_rfl)
                    have e14 : vals 14 = _ := hd 14 (by kernel_rfl)
                    clear hd
                    go_wp2_with fail
                    exact rel_done rfl _ rfl (by first | rfl | exact e14 | (simp [*]; done)) noApart_all (Below.refl _ _)
                · intro vals X hXX hv _
                  have e15 : vals 15 = _ := hv 15 (by decide)
                  have hB3 := below_step HB.out hXX
                  clear hv hXX
                  simp only [putAll, Act.put, List.take_succ_cons, List.take_zero, List.drop_succ_cons, List.drop_zero, List.setIfInBounds_toArray, List.set_cons_succ, List.set_cons_zero, Option.getD_some, Nat.zero_add, Nat.reduceAdd]
                  simp only [e15]
                  clear e15
                  go_wp2_with fail
                  go_ret
                  exact ⟨rfl, hB3⟩
        · have na1 : (a == 1) = false := by simp; omega
          have na3 : (a == 3) = false := by simp; omega
          have na1' : (a != 1) = true := by simp; omega
          have na3' : (a != 3) = true := by simp; omega
          clear ha HK
          go_wp2_with fail
          go_ret
          exact ⟨rfl, HB.out⟩
end Go.Proofs.YteflfnjljjianaaGreatDoor.Qx
namespace Go.Proofs.YteflfnjljjianaaGreatDoor.Qx
open Go.RowKit Go.Proofs.YteflfnjljjianaaGreatDoorW.PrintWords Go.Proofs.YteflfnjljjianaaGreatDoorW.PrintLast Go.Proofs.YteflfnjljjianaaGreatDoorW.PrintMore
attribute [local go_sem] max2_int min2_int max_two min_two
set_option linter.unusedVariables false
set_option linter.unusedSimpArgs false
def ty7 : List S63 := [⟨2, 2, false⟩, ⟨3, 0, false⟩, ⟨1, 0, false⟩, ⟨2, 0, true⟩, ⟨3, 0, true⟩, ⟨1, 0, true⟩, ⟨2, 0, false⟩]
def tyOf (x : Int) : S63 := rd_T63 ty7 (Int.tmod x 7)
def typesOf (l : List Int) : List S63 := (l.take 6).map tyOf
def nul : S35 := ⟨0, 0, ⟨#[]⟩⟩
def vNum (s : Int) : List S35 := (List.range 40).map fun m : Nat => ⟨2, wrap64 (wrap64 (wrap64 (m : Int) - 12) * s), ⟨#[]⟩⟩
def wordL : List ByteArray := [⟨#[]⟩, ⟨#[97]⟩, ⟨#[98]⟩, ⟨#[97, 98]⟩, ⟨#[97, 32, 98]⟩, ⟨#[98, 32, 97, 32, 99]⟩, ⟨#[120, 45, 121]⟩, ⟨#[45]⟩, ⟨#[49, 50]⟩, ⟨#[45, 48, 46, 53]⟩, ⟨#[97, 34, 98]⟩, ⟨#[92]⟩, ⟨#[48]⟩, ⟨#[55, 46, 50, 53]⟩, ⟨#[97, 98, 99, 100, 101, 102, 103, 104, 105, 106, 107, 108, 109, 110, 111, 112, 113, 114, 115, 116, 117, 118, 119, 120, 121, 122, 97, 98, 99, 100, 101, 102, 103, 104, 105, 106, 107, 108, 109, 110]⟩]
def vTxt : List S35 := (List.range 15).map fun m : Nat => ⟨3, 0, rdOf ByteArray.empty wordL (m : Int)⟩
def stepS (s : Int) : Int := if s = 2 then 10000 else 1000000
def VT (t : S63) : List S35 := (if t.f2 then [nul] else []) ++ (if t.f0 = 1 then [⟨1, 0, ⟨#[]⟩⟩, ⟨1, 1, ⟨#[]⟩⟩] else if t.f0 = 2 then vNum 1000000 ++ vNum (stepS t.f1) else vTxt)
def SPl (t : S63) : List (Int × Int) := (1, 0) :: ((List.range 8).map fun i : Nat => (2, 1 + (i : Int))) ++ (if t.f0 = 1 then [] else if t.f0 = 3 then (List.range 4).map fun i : Nat => (3, 1 + (i : Int)) else (List.range 6).map fun i : Nat => (3, chapmanref32_Made.tbl (i : Int)))
def possT (t : S63) (a n : Int) (p : S35) : Option Bool :=
  if (p.f0 == 0 && (p.f1 == 0 && p.f2.toList.isEmpty)) = true then some t.f2
  else if a = 1 then partition_spec_isValue.f 100 a 0 n t.f0 t.f1 t.f2 p.f0 p.f1 p.f2 else if a = 2 then partition_spec_isBucket.f a 0 n t.f0 t.f1 t.f2 p.f0 p.f1 p.f2
  else if a = 3 then partition_spec_isTrunc.f 100 a 0 n t.f0 t.f1 t.f2 p.f0 p.f1 p.f2 else none
def ofT (a n : Int) (x : S35) : Option S35 := (partition_of.f 100 a 0 n x.f0 x.f1 x.f2).map fun r => ⟨r.1, r.2.1, r.2.2⟩
def same35 (x y : S35) : Bool := x.f0 == y.f0 && x.f1 == y.f1 && x.f2.data == y.f2.data
def ok1 (t : S63) (a n : Int) (x : S35) : Bool := match ofT a n x with
  | some p => possT t a n p == some true && (a == 2 || match ofT a n p with | some q => same35 p q | none => false)
  | none => false
def chk1 (t : S63) : Bool := (SPl t).all fun s => (partition_Valid.kind s.1 t s.2 == some true) && (VT t).all (ok1 t s.1 s.2)
set_option maxRecDepth 1000000
theorem chk1_all : ty7.all chk1 = true := by kernel_rfl
def Byt (l : List Int) : Prop := ∀ x ∈ l, 0 ≤ x ∧ x < 256
theorem tmod_lt {x n : Int} (h : 0 ≤ x) (hn : 0 < n) : 0 ≤ Int.tmod x n ∧ Int.tmod x n < n := by
  rw [Int.tmod_eq_emod_of_nonneg h]
  exact ⟨Int.emod_nonneg _ (by omega), Int.emod_lt_of_pos _ hn⟩
theorem tyOf_mem {x : Int} (h : 0 ≤ x) : tyOf x ∈ ty7 := by
  have := tmod_lt (n := 7) h (by omega)
  unfold tyOf rd_T63
  rw [List.getD_eq_getElem?_getD, List.getElem?_eq_getElem (by simp [ty7]; omega)]
  exact List.getElem_mem _
theorem typesOf_mem {l : List Int} (hb : Byt l) {t : S63} (ht : t ∈ typesOf l) : t ∈ ty7 := by
  obtain ⟨x, hx, rfl⟩ := List.mem_map.1 ht
  exact tyOf_mem (hb x (List.mem_of_mem_take hx)).1
theorem typesOf_len (l : List Int) : (typesOf l).length ≤ 6 := by
  unfold typesOf
  rw [List.length_map]
  exact List.length_take_le _ _
theorem types_l0 (l : List Int) (hb : Byt l) : ∀ (d k i : Nat) (acc : List S63), i + d = 6 → d < k → acc.length = i → chapmanref11_Types.l0 k l acc (i : Int) = some (acc ++ ((l.take 6).drop i).map tyOf)
  | 0, k + 1, i, acc, hi, _, _ => by
    obtain rfl : i = 6 := by omega
    have e : (l.take 6).drop 6 = [] := List.drop_eq_nil_of_le (List.length_take_le _ _)
    rw [e]
    unfold chapmanref11_Types.l0
    split
    · rw [if_neg (by decide)]; simp
    · simp
  | d + 1, k + 1, i, acc, hi, hk, ha => by
    unfold chapmanref11_Types.l0
    by_cases hl : i < l.length
    · have hx := hb l[i] (List.getElem_mem _)
      have hr : rd l (i : Int) = l[i] := by simp [rd, hl]
      have hm := tmod_lt (n := 7) hx.1 (by omega)
      have hit : i < (l.take 6).length := by rw [List.length_take]; omega
      rw [if_pos (by omega), if_pos (by omega)]
      simp only [Option.bind_some, hr]
      rw [if_pos (by omega), if_pos hm.1, if_pos (by simpa using hm.2), if_pos (by omega)]
      have hw : wrap64 ((i : Int) + 1) = ((i + 1 : Nat) : Int) := by unfold wrap64; omega
      rw [hw, types_l0 l hb d k (i + 1) _ (by omega) (by omega) (by simp [ha]), List.drop_eq_getElem_cons hit, List.map_cons, List.getElem_take, List.append_assoc]
      rfl
    · have e : (l.take 6).drop i = [] := List.drop_eq_nil_of_le (by rw [List.length_take]; omega)
      rw [if_neg (by omega), e]
      simp
theorem types_f {l : List Int} (hb : Byt l) : chapmanref11_Types.f 100 l = some (typesOf l) := by
  have := types_l0 l hb 6 100 0 [] rfl (by omega) rfl
  have e : chapmanref11_Types.f 100 l = chapmanref11_Types.l0 100 l [] ((0 : Nat) : Int) := rfl
  rw [e, this]
  rfl
theorem map_mem {α : Type} {f : Nat → α} {n : Nat} {x : Int} (h0 : 0 ≤ x) (h1 : x < (n : Int)) : f x.toNat ∈ (List.range n).map f := List.mem_map.2 ⟨x.toNat, List.mem_range.2 (by omega), rfl⟩
theorem j0_num {k : Nat} (sc : Int) (tn : Bool) (b0 b1 : Int) (hs : chapmanref06_Step.f k sc = some (stepS sc)) (h : 0 ≤ b1) : ∃ v ∈ vNum 1000000 ++ vNum (stepS sc), chapmanref06_Value.j0 (k + 1) false 2 sc tn b0 b1 = some (v.f0, v.f1, v.f2) := by
  have hm := tmod_lt (n := 40) h (by omega)
  have e : ((Int.tmod b1 40).toNat : Int) = Int.tmod b1 40 := Int.toNat_of_nonneg hm.1
  simp only [chapmanref06_Value.j0]
  rw [if_neg (by decide), if_neg (by decide), if_pos trivial]
  split
  · refine ⟨_, List.mem_append_right _ (map_mem hm.1 hm.2), ?_⟩
    rw [hs, e]
    rfl
  · refine ⟨_, List.mem_append_left _ (map_mem hm.1 hm.2), ?_⟩
    rw [e]
    rfl
theorem j0_txt {k : Nat} (sc : Int) (tn : Bool) (b0 b1 : Int) (h : 0 ≤ b1 ∧ b1 < 256) : ∃ v ∈ vTxt, chapmanref06_Value.j0 (k + 1) false 3 sc tn b0 b1 = some (v.f0, v.f1, v.f2) := by
  have hm := tmod_lt (n := 15) h.1 (by omega)
  have e : ((Int.tmod b1 15).toNat : Int) = Int.tmod b1 15 := Int.toNat_of_nonneg hm.1
  have hw : wrap64 b1 = b1 := by unfold wrap64; omega
  simp only [chapmanref06_Value.j0]
  rw [if_neg (by decide), if_neg (by decide), if_neg (by decide), hw]
  refine ⟨_, map_mem hm.1 hm.2, ?_⟩
  unfold chapmanref06_words.f
  simp only [Option.bind_some]
  rw [if_pos hm.1, if_pos (by simpa using hm.2), e]
  rfl
theorem j0_bool {k : Nat} (sc : Int) (tn : Bool) (b0 b1 : Int) : ∃ v ∈ [(⟨1, 0, ⟨#[]⟩⟩ : S35), ⟨1, 1, ⟨#[]⟩⟩], chapmanref06_Value.j0 (k + 1) false 1 sc tn b0 b1 = some (v.f0, v.f1, v.f2) := by
  simp only [chapmanref06_Value.j0]
  rw [if_neg (by decide), if_pos trivial]
  cases (Int.tmod b1 2 == 1)
  · exact ⟨_, List.mem_cons_self, rfl⟩
  · exact ⟨_, List.mem_cons_of_mem _ List.mem_cons_self, rfl⟩
theorem j0_nul (f0 sc : Int) (tn : Bool) (b0 b1 : Int) : chapmanref06_Value.j0 100 true f0 sc tn b0 b1 = some (nul.f0, nul.f1, nul.f2) := rfl
theorem val_f {t : S63} (ht : t ∈ ty7) {b0 b1 : Int} (h1 : 0 ≤ b1 ∧ b1 < 256) : ∃ v ∈ VT t, chapmanref06_Value.f 100 t.f0 t.f1 t.f2 b0 b1 = some (v.f0, v.f1, v.f2) := by
  have s0 : chapmanref06_Step.f 99 0 = some (stepS 0) := by kernel_rfl
  have s2 : chapmanref06_Step.f 99 2 = some (stepS 2) := by kernel_rfl
  have key : ∀ t : S63, (∃ v ∈ (if t.f0 = 1 then [(⟨1, 0, ⟨#[]⟩⟩ : S35), ⟨1, 1, ⟨#[]⟩⟩] else if t.f0 = 2 then vNum 1000000 ++ vNum (stepS t.f1) else vTxt), chapmanref06_Value.j0 100 false t.f0 t.f1 t.f2 b0 b1 = some (v.f0, v.f1, v.f2)) → ∃ v ∈ VT t, chapmanref06_Value.f 100 t.f0 t.f1 t.f2 b0 b1 = some (v.f0, v.f1, v.f2) := by
    intro t ⟨v, hv, h⟩
    unfold chapmanref06_Value.f VT
    cases htn : t.f2
    · rw [htn] at h
      exact ⟨v, List.mem_append_right _ hv, h⟩
    · rw [htn] at h
      rw [if_pos rfl]
      cases (Int.tmod b0 5 == 0)
      · exact ⟨v, List.mem_append_right _ hv, h⟩
      · exact ⟨nul, List.mem_append_left _ (by simp), j0_nul t.f0 t.f1 true b0 b1⟩
  refine key t ?_
  simp only [ty7, List.mem_cons, List.not_mem_nil, or_false] at ht
  rcases ht with rfl | rfl | rfl | rfl | rfl | rfl | rfl
  · exact j0_num (k := 99) 2 _ _ _ s2 h1.1
  · exact j0_txt (k := 99) _ _ _ _ h1
  · exact j0_bool (k := 99) _ _ _ _
  · exact j0_num (k := 99) 0 _ _ _ s0 h1.1
  · exact j0_txt (k := 99) _ _ _ _ h1
  · exact j0_bool (k := 99) _ _ _ _
  · exact j0_num (k := 99) 0 _ _ _ s0 h1.1
theorem exists_row (P : Nat → S35 → Prop) (n : Nat) (h : ∀ i, i < n → ∃ v, P i v) : ∃ vs : List S35, vs.length = n ∧ ∀ i, i < n → P i (vs.getD i z35) := by
  induction n with
  | zero => exact ⟨[], rfl, fun i hi => by omega⟩
  | succ n ih =>
    obtain ⟨vs, h1, h2⟩ := ih (fun i hi => h i (by omega))
    obtain ⟨v, hv⟩ := h n (by omega)
    refine ⟨vs ++ [v], by simp [h1], fun i hi => ?_⟩
    by_cases hin : i < n
    · have := h2 i hin
      rw [List.getD_eq_getElem?_getD] at this ⊢
      rwa [List.getElem?_append_left (by omega)]
    · obtain rfl : i = n := by omega
      rw [List.getD_eq_getElem?_getD, List.getElem?_append_right (by omega), h1]
      simpa using hv
theorem row_f {T : List S63} (hT : ∀ t ∈ T, t ∈ ty7) {l : List Int} (hb : Byt l) : ∃ vs, RowOf 100 T l vs ∧ ∀ i : Nat, i < T.length → rd_T35 vs (i : Int) ∈ VT (rd_T63 T (i : Int)) := by
  obtain ⟨vs, h1, h2⟩ := exists_row (fun i v => v ∈ VT (rd_T63 T (i : Int)) ∧ chapmanref06_Value.f 100 (rd_T63 T i).f0 (rd_T63 T i).f1 (rd_T63 T i).f2 (rowByte l (2 * i)) (rowByte l (2 * i + 1)) = some (v.f0, v.f1, v.f2)) T.length (fun i hi => by
    have ht : rd_T63 T (i : Int) ∈ ty7 := by
      refine hT _ ?_
      unfold rd_T63
      rw [Int.toNat_natCast, List.getD_eq_getElem?_getD, List.getElem?_eq_getElem hi]
      exact List.getElem_mem _
    obtain ⟨v, hv, h⟩ := val_f ht (b0 := rowByte l (2 * i)) (rowByte_range hb (2 * i + 1))
    exact ⟨v, hv, h⟩)
  refine ⟨vs, ⟨h1, fun i hi => ?_⟩, fun i hi => ?_⟩
  · have := (h2 i hi).2
    simpa [rd_T35] using this
  · have := (h2 i hi).1
    simpa [rd_T35] using this
theorem rd63_mem {T : List S63} (hT : ∀ t ∈ T, t ∈ ty7) {m : Nat} (hm : m < T.length) : rd_T63 T (m : Int) ∈ ty7 := by
  refine hT _ ?_
  unfold rd_T63
  rw [Int.toNat_natCast, List.getD_eq_getElem?_getD, List.getElem?_eq_getElem hm]
  exact List.getElem_mem _
theorem made_spec {T : List S63} (hT : ∀ t ∈ T, t ∈ ty7) {b0 b1 b2 : Int} (h0 : 0 ≤ b0 ∧ b0 < 256) (h1 : 0 ≤ b1 ∧ b1 < 256) (h2 : 0 ≤ b2 ∧ b2 < 256) :
    ∃ a b n, chapmanref32_Made.f T b0 b1 b2 = ⟨a, b, n⟩ ∧ ((a = 0 ∧ b = 0 ∧ n = 0) ∨ ∃ m : Nat, b = (m : Int) ∧ m < T.length ∧ (a, n) ∈ SPl (rd_T63 T (m : Int))) := by
  unfold chapmanref32_Made.f
  split
  · exact ⟨0, 0, 0, rfl, .inl ⟨rfl, rfl, rfl⟩⟩
  · rename_i hz
    have hp : (0 : Int) < T.length := by omega
    have e1 := Int.emod_nonneg b1 (b := (T.length : Int)) (by omega)
    have e2 := Int.emod_lt_of_pos b1 hp
    obtain ⟨m, hm⟩ : ∃ m : Nat, b1 % (T.length : Int) = m := ⟨_, (Int.toNat_of_nonneg e1).symm⟩
    rw [hm]
    have hmt : m < T.length := by omega
    have ht := rd63_mem hT hmt
    have k8 : ∀ x : Int, 0 ≤ x → x < 8 → (2, 1 + x) ∈ SPl (rd_T63 T (m : Int)) := fun x h0 h1 => by
      refine List.mem_append_left _ (List.mem_cons_of_mem _ (List.mem_map.2 ⟨x.toNat, List.mem_range.2 (by omega), ?_⟩))
      rw [Int.toNat_of_nonneg h0]
    have k1 : ((1 : Int), (0 : Int)) ∈ SPl (rd_T63 T (m : Int)) := List.mem_append_left _ List.mem_cons_self
    unfold chapmanref32_Made.g
    split
    · exact ⟨_, _, _, rfl, .inr ⟨m, rfl, hmt, k8 (b2 % 8) (by omega) (by omega)⟩⟩
    · split
      · exact ⟨_, _, _, rfl, .inr ⟨m, rfl, hmt, k1⟩⟩
      · split
        · exact ⟨_, _, _, rfl, .inr ⟨m, rfl, hmt, k1⟩⟩
        · rename_i ht1
          split
          · rename_i ht3
            refine ⟨_, _, _, rfl, .inr ⟨m, rfl, hmt, List.mem_append_right _ ?_⟩⟩
            rw [if_neg ht1, if_pos ht3]
            exact List.mem_map.2 ⟨(b2 % 4).toNat, List.mem_range.2 (by omega), by rw [Int.toNat_of_nonneg (by omega)]⟩
          · rename_i ht3
            refine ⟨_, _, _, rfl, .inr ⟨m, rfl, hmt, List.mem_append_right _ ?_⟩⟩
            rw [if_neg ht1, if_neg ht3]
            exact List.mem_map.2 ⟨(b2 % 6).toNat, List.mem_range.2 (by omega), by rw [Int.toNat_of_nonneg (by omega)]⟩
theorem noBad : ty7.all (fun t => !badType t) = true := by kernel_rfl
theorem good {T : List S63} (hT : ∀ t ∈ T, t ∈ ty7) : T.any badType = false := by
  rw [List.any_eq_false]
  intro t ht
  have := List.all_eq_true.1 noBad t (hT t ht)
  simpa using this
theorem ext35 {p q : S35} (h : same35 p q = true) : p = q := by
  unfold same35 at h
  simp only [Bool.and_eq_true, beq_iff_eq] at h
  obtain ⟨⟨h0, h1⟩, h2⟩ := h
  cases p with | mk a b c => cases q with | mk a' b' c' =>
  simp only at h0 h1 h2
  subst h0 h1
  congr 1
  cases c with | mk c => cases c' with | mk c' =>
  simp only at h2
  rw [h2]
theorem of_of {a n : Int} {x p : S35} (h : ofT a n x = some p) (b : Int) : partition_of.f 100 a b n x.f0 x.f1 x.f2 = some (p.f0, p.f1, p.f2) := by
  obtain ⟨r, hr, e⟩ := Option.map_eq_some_iff.1 h
  subst e
  exact hr
theorem Of_row {a n : Int} {xs : List S35} {m : Nat} (hm : m < xs.length) (ha : a ≠ 0) {p : S35} (h : ofT a n (rd_T35 xs (m : Int)) = some p) : partition_Of.f 100 a (m : Int) n xs = some (p.f0, p.f1, p.f2) := by
  unfold partition_Of.f
  rw [if_neg ha, if_pos (by omega), if_pos (by omega), of_of h]
  rfl
theorem spec_pos {t : S63} {a n : Int} (h : (a, n) ∈ SPl t) : a = 1 ∨ a = 2 ∨ a = 3 := by
  unfold SPl at h
  rcases List.mem_append.1 h with h | h
  · rcases List.mem_cons.1 h with h | h
    · exact .inl (by injection h)
    · obtain ⟨i, _, e⟩ := List.mem_map.1 h
      injection e with e
      exact .inr (.inl e.symm)
  · split at h
    · cases h
    · split at h <;> (obtain ⟨i, _, e⟩ := List.mem_map.1 h; injection e with e; exact .inr (.inr e.symm))
theorem col1 {t : S63} (ht : t ∈ ty7) {a n : Int} (hs : (a, n) ∈ SPl t) : partition_Valid.kind a t n = some true ∧ ∀ x ∈ VT t, ∃ p, ofT a n x = some p ∧ possT t a n p = some true ∧ (a ≠ 2 → ofT a n p = some p) := by
  have h := List.all_eq_true.1 (List.all_eq_true.1 chk1_all t ht) (a, n) hs
  simp only [Bool.and_eq_true, beq_iff_eq] at h
  refine ⟨h.1, fun x hx => ?_⟩
  have hk := List.all_eq_true.1 h.2 x hx
  unfold ok1 at hk
  split at hk
  · rename_i p hp
    simp only [Bool.and_eq_true, Bool.or_eq_true, beq_iff_eq] at hk
    refine ⟨p, hp, hk.1, fun ha => ?_⟩
    rcases hk.2 with h2 | h2
    · exact absurd h2 ha
    · split at h2
      · rename_i q hq
        obtain rfl := ext35 h2
        exact hq
      · cases h2
  · cases hk
theorem valid_f {T : List S63} (hT : ∀ t ∈ T, t ∈ ty7) (hl : T.length ≤ 6) {a n : Int} {m : Nat} (hm : m < T.length) (hs : (a, n) ∈ SPl (rd_T63 T (m : Int))) : partition_Valid.f T a (m : Int) n = some true := by
  have ha := spec_pos hs
  unfold partition_Valid.f
  rw [if_pos (by omega), if_neg (by rw [good hT]; decide), if_neg (by omega), if_pos ⟨by omega, by omega, by omega, by omega⟩]
  exact (col1 (rd63_mem hT hm) hs).1
theorem poss_f {T : List S63} (hT : ∀ t ∈ T, t ∈ ty7) (hl : T.length ≤ 6) {a n : Int} {m : Nat} (hm : m < T.length) (hs : (a, n) ∈ SPl (rd_T63 T (m : Int))) {p : S35} (h : possT (rd_T63 T (m : Int)) a n p = some true) : partition_Possible.f 100 T a (m : Int) n p.f0 p.f1 p.f2 = some true := by
  have ha := spec_pos hs
  unfold partition_Possible.f
  rw [valid_f hT hl hm hs]
  simp only [Option.bind_some, if_true]
  rw [if_neg (by omega)]
  exact h
end Go.Proofs.YteflfnjljjianaaGreatDoor.Qx
namespace Go.Proofs.YteflfnjljjianaaGreatDoor.Qx
open Go.RowKit Go.Proofs.YteflfnjljjianaaGreatDoorW.PrintWords Go.Proofs.YteflfnjljjianaaGreatDoorW.PrintLast Go.Proofs.YteflfnjljjianaaGreatDoorW.PrintMore
set_option linter.unusedVariables false
def openT (t : S63) : Option S82 := (partition_open.f 100 t.f0 t.f1 t.f2).map s82
def boxT (a n : Int) (p : S35) : Option S82 := if (p.f0 == 0 && (p.f1 == 0 && p.f2.toList.isEmpty)) = true then some ⟨1, false, z35, z35, 0⟩ else (lastOf 100 a 0 n p.f0 p.f1 p.f2).map fun q => ⟨0, true, p, ⟨q.1, q.2.1, q.2.2⟩, 0⟩
def okb (x : S82) : Bool := x.f4 == 0 && decide (0 ≤ x.f0) && decide (x.f0 ≤ 4000000000000000000) && (if x.f1 then x.f2.f0 == x.f3.f0 && x.f2.f0 != 0 && (value_Wide.f 100 x.f2.f0 x.f2.f1 x.f2.f2 == some true) && (value_Wide.f 100 x.f3.f0 x.f3.f1 x.f3.f2 == some true) &&
    (match value_Cmp.f 100 x.f2.f0 x.f2.f1 x.f2.f2 x.f3.f0 x.f3.f1 x.f3.f2 with | some c => decide (c ≤ 0) | none => false) else same35 x.f2 z35 && same35 x.f3 z35)
def hasb (x : S82) (v : S35) (r : Bool) : Bool := (value_Wide.f 100 v.f0 v.f1 v.f2 == some true) && (bounds_Contains.g 100 x.f0 x.f1 x.f2.f0 x.f2.f1 x.f2.f2 x.f3.f1 x.f3.f2 v.f0 v.f1 v.f2 == some r)
def hasc (x : S82) (v : S35) (r : Bool) : Bool := bounds_Contains.g 100 x.f0 x.f1 x.f2.f0 x.f2.f1 x.f2.f2 x.f3.f1 x.f3.f2 v.f0 v.f1 v.f2 == some r
def chkO (t : S63) : Bool := match openT t with | some x => okb x && (VT t).all fun v => hasb x v true | none => false
def VN (t : S63) : List S35 := if t.f0 = 2 ∧ t.f1 = 0 then (if t.f2 then [nul] else []) ++ vNum 1000000 else VT t
theorem VN_mem {t : S63} {v : S35} (h : v ∈ VT t) : v ∈ VN t := by
  unfold VN
  split
  · rename_i hc
    unfold VT at h
    have e : stepS t.f1 = 1000000 := by unfold stepS; rw [if_neg (by rw [hc.2]; decide)]
    rw [e, show ∀ A B C : List S35, (if t.f0 = 1 then A else if t.f0 = 2 then B else C) = B from fun A B C => by rw [if_neg (by rw [hc.1]; decide), if_pos hc.1]] at h
    rw [List.mem_append, List.mem_append] at h
    rw [List.mem_append]
    exact h.imp id (fun h => h.elim id id)
  · exact h
def chkB1 (t : S63) (s : Int × Int) : Bool := (VN t).all fun x => match ofT s.1 s.2 x with
  | some p => (match boxT s.1 s.2 p with
    | some B => okb B && hasc B x true && ((VN t).all fun y => match ofT s.1 s.2 y with | some q => hasc B y (q.f0 == p.f0 && (q.f1 == p.f1 && (q.f2.toList == p.f2.toList))) | none => false) &&
      (if B.f1 then (match ofT s.1 s.2 B.f2, ofT s.1 s.2 B.f3 with | some u, some v => same35 u p && same35 v p | _, _ => false) else same35 x nul)
    | none => false)
  | none => false
def chkB (t : S63) : Bool := (SPl t).all fun s => s.1 == 2 || chkB1 t s
set_option maxRecDepth 1000000
theorem chkO_all : ty7.all chkO = true := by kernel_rfl
theorem chkB_b : chkB ⟨1, 0, false⟩ = true := by kernel_rfl
theorem chkB_bn : chkB ⟨1, 0, true⟩ = true := by kernel_rfl
theorem chkB_t : chkB ⟨3, 0, false⟩ = true := by kernel_rfl
theorem chkB_tn : chkB ⟨3, 0, true⟩ = true := by kernel_rfl
theorem chkB_n : chkB ⟨2, 0, false⟩ = true := by kernel_rfl
theorem chkB_n2_0 : chkB1 ⟨2, 2, false⟩ (1, 0) = true := by kernel_rfl
theorem chkB_n2_9 : chkB1 ⟨2, 2, false⟩ (3, chapmanref32_Made.tbl 0) = true := by kernel_rfl
theorem chkB_n2_10 : chkB1 ⟨2, 2, false⟩ (3, chapmanref32_Made.tbl 1) = true := by kernel_rfl
theorem chkB_n2_11 : chkB1 ⟨2, 2, false⟩ (3, chapmanref32_Made.tbl 2) = true := by kernel_rfl
theorem chkB_n2_12 : chkB1 ⟨2, 2, false⟩ (3, chapmanref32_Made.tbl 3) = true := by kernel_rfl
theorem chkB_n2_13 : chkB1 ⟨2, 2, false⟩ (3, chapmanref32_Made.tbl 4) = true := by kernel_rfl
theorem chkB_n2_14 : chkB1 ⟨2, 2, false⟩ (3, chapmanref32_Made.tbl 5) = true := by kernel_rfl
theorem SPl_n2 : SPl ⟨2, 2, false⟩ = [(1, 0), (2, 1), (2, 2), (2, 3), (2, 4), (2, 5), (2, 6), (2, 7), (2, 8), (3, chapmanref32_Made.tbl 0), (3, chapmanref32_Made.tbl 1), (3, chapmanref32_Made.tbl 2), (3, chapmanref32_Made.tbl 3), (3, chapmanref32_Made.tbl 4), (3, chapmanref32_Made.tbl 5)] := by kernel_rfl
theorem chkB_n2 : chkB ⟨2, 2, false⟩ = true := by
  refine List.all_eq_true.2 fun s hs => ?_
  rw [SPl_n2] at hs
  simp only [List.mem_cons, List.not_mem_nil, or_false] at hs
  rw [Bool.or_eq_true]
  rcases hs with rfl | rfl | rfl | rfl | rfl | rfl | rfl | rfl | rfl | rfl | rfl | rfl | rfl | rfl | rfl
  · exact .inr chkB_n2_0
  · exact .inl rfl
  · exact .inl rfl
  · exact .inl rfl
  · exact .inl rfl
  · exact .inl rfl
  · exact .inl rfl
  · exact .inl rfl
  · exact .inl rfl
  · exact .inr chkB_n2_9
  · exact .inr chkB_n2_10
  · exact .inr chkB_n2_11
  · exact .inr chkB_n2_12
  · exact .inr chkB_n2_13
  · exact .inr chkB_n2_14
theorem chkB_nn : chkB ⟨2, 0, true⟩ = true := by kernel_rfl
theorem okb_of {x : S82} (h : okb x = true) : OkB x := by
  unfold okb at h
  simp only [Bool.and_eq_true, beq_iff_eq, decide_eq_true_eq] at h
  obtain ⟨⟨⟨h4, h0⟩, h1⟩, h⟩ := h
  intro X hX
  obtain ⟨n, has, lo, hi, s⟩ := x
  obtain ⟨a0, a1, a2⟩ := lo
  obtain ⟨b0, b1, b2⟩ := hi
  simp only at h4 h0 h1 h
  subst h4
  cases has with
  | false =>
    rw [if_neg (by decide)] at h
    simp only [Bool.and_eq_true] at h
    have e1 := ext35 h.1
    have e2 := ext35 h.2
    unfold z35 at e1 e2
    injection e1 with e1 e3 e5
    injection e2 with e2 e4 e6
    subst e1 e2 e3 e4 e5 e6
    exact bounds_Valid.none n X h0 h1
  | true =>
    rw [if_pos rfl] at h
    simp only [Bool.and_eq_true, beq_iff_eq, bne_iff_ne] at h
    obtain ⟨⟨⟨⟨e, hne⟩, w1⟩, w2⟩, hc⟩ := h
    subst e
    revert hc
    cases hq : value_Cmp.f 100 a0 a1 a2 a0 b1 b2 with
    | none => intro hc; exact absurd hc (by simp)
    | some c => intro hc; exact bounds_Valid.has 100 n a0 a1 a2 b1 b2 c X hX h0 h1 w1 w2 hne hq (of_decide_eq_true hc)
theorem kinds_of {x : S82} (h : okb x = true) : x.f2.f0 = x.f3.f0 ∧ x.f4 = 0 := by
  unfold okb at h
  simp only [Bool.and_eq_true, beq_iff_eq, decide_eq_true_eq] at h
  obtain ⟨⟨⟨h4, h0⟩, h1⟩, h⟩ := h
  refine ⟨?_, h4⟩
  split at h
  · simp only [Bool.and_eq_true, beq_iff_eq] at h
    exact h.1.1.1.1
  · simp only [Bool.and_eq_true] at h
    rw [ext35 h.1, ext35 h.2]
theorem hasb_of {x : S82} {v : S35} {r : Bool} (ho : okb x = true) (h : hasb x v r = true) : HasB x v r := by
  obtain ⟨e, h4⟩ := kinds_of ho
  have hO := okb_of ho
  unfold hasb at h
  simp only [Bool.and_eq_true, beq_iff_eq] at h
  intro X hX
  unfold OkB at hO
  obtain ⟨n, has, ⟨a0, a1, a2⟩, ⟨b0, b1, b2⟩, s⟩ := x
  simp only at e h4 h hO
  subst e h4
  exact bounds_Contains.calls 100 n has a0 a1 a2 b1 b2 v.f0 v.f1 v.f2 r X hX hO h.1 h.2
theorem chkB_all {t : S63} (ht : t ∈ ty7) : chkB t = true := by
  simp only [ty7, List.mem_cons, List.not_mem_nil, or_false] at ht
  rcases ht with rfl | rfl | rfl | rfl | rfl | rfl | rfl
  · exact chkB_n2
  · exact chkB_t
  · exact chkB_b
  · exact chkB_nn
  · exact chkB_tn
  · exact chkB_bn
  · exact chkB_n
theorem colO {t : S63} (ht : t ∈ ty7) : ∃ x, openT t = some x ∧ okb x = true ∧ ∀ v ∈ VT t, hasb x v true = true := by
  have h := List.all_eq_true.1 chkO_all t ht
  unfold chkO at h
  split at h
  · rename_i x hx
    simp only [Bool.and_eq_true] at h
    exact ⟨x, hx, h.1, fun v hv => List.all_eq_true.1 h.2 v hv⟩
  · exact absurd h (by simp)
theorem openAll_ex : ∀ {T : List S63}, (∀ t ∈ T, t ∈ ty7) → ∃ OL, openAll 100 T = some OL
  | [], _ => ⟨[], rfl⟩
  | t :: l, h => by
    obtain ⟨x, hx, _⟩ := colO (h t List.mem_cons_self)
    obtain ⟨r, hr, _⟩ := Option.map_eq_some_iff.1 hx
    obtain ⟨OL, hO⟩ := openAll_ex (T := l) (fun u hu => h u (List.mem_cons_of_mem _ hu))
    exact ⟨s82 r :: OL, by unfold openAll; rw [hr, hO]; rfl⟩
theorem open_at {T : List S63} {OL : List S82} (h : openAll 100 T = some OL) {j : Nat} (hj : j < T.length) : openT (rd_T63 T (j : Int)) = some (OL.getD j z82) := by
  obtain ⟨r, hr, e⟩ := openAll.get h j hj
  unfold openT
  rw [hr, e]
  rfl
theorem hasb_mk {t : S63} (ht : t ∈ ty7) {x : S82} {v : S35} {r : Bool} (hv : v ∈ VT t) (h : hasc x v r = true) : hasb x v r = true := by
  obtain ⟨y, _, _, hy⟩ := colO ht
  have hw := hy v hv
  unfold hasb at hw ⊢
  unfold hasc at h
  simp only [Bool.and_eq_true] at hw ⊢
  exact ⟨hw.1, h⟩
theorem colB {t : S63} (ht : t ∈ ty7) {a n : Int} (hs : (a, n) ∈ SPl t) (ha : a ≠ 2) {x p : S35} (hx : x ∈ VT t) (hp : ofT a n x = some p) :
    ∃ B, boxT a n p = some B ∧ okb B = true ∧ hasb B x true = true ∧ (∀ y ∈ VT t, ∃ q, ofT a n y = some q ∧ hasb B y (q.f0 == p.f0 && (q.f1 == p.f1 && (q.f2.toList == p.f2.toList))) = true) ∧ (B.f1 = false → x = nul) ∧ (B.f1 = true → ofT a n B.f2 = some p ∧ ofT a n B.f3 = some p) := by
  have h : ((a, n).1 == 2 || chkB1 t (a, n)) = true := List.all_eq_true.1 (chkB_all ht) (a, n) hs
  unfold chkB1 at h
  simp only [Bool.or_eq_true, beq_iff_eq] at h
  have hk := List.all_eq_true.1 (h.resolve_left ha) x (VN_mem hx)
  simp only [hp] at hk
  cases hB : boxT a n p with
  | none => rw [hB] at hk; exact absurd hk (by simp)
  | some B =>
    rw [hB] at hk
    simp only [Bool.and_eq_true] at hk
    obtain ⟨⟨⟨h1, h2⟩, h3⟩, h4⟩ := hk
    refine ⟨B, rfl, h1, hasb_mk ht hx h2, fun y hy => ?_, fun hf => ?_, fun hf => ?_⟩
    · have := List.all_eq_true.1 h3 y (VN_mem hy)
      cases hq : ofT a n y with
      | none => rw [hq] at this; exact absurd this (by simp)
      | some q => rw [hq] at this; exact ⟨q, rfl, hasb_mk ht hy this⟩
    · rw [hf, if_neg (by decide)] at h4
      exact ext35 h4
    · rw [hf, if_pos rfl] at h4
      cases hu : ofT a n B.f2 with
      | none => rw [hu] at h4; exact absurd h4 (by simp)
      | some u =>
        cases hv : ofT a n B.f3 with
        | none => rw [hu, hv] at h4; exact absurd h4 (by simp)
        | some v =>
          rw [hu, hv] at h4
          simp only [Bool.and_eq_true] at h4
          rw [ext35 h4.1, ext35 h4.2]
          exact ⟨rfl, rfl⟩
theorem set_at {xs : List S35} {m : Nat} (hm : m < xs.length) (p : S35) : rd_T35 (xs.set m p) (m : Int) = p := by
  unfold rd_T35
  rw [Int.toNat_natCast, List.getD_eq_getElem?_getD, List.getElem?_set]
  simp [hm]
theorem bnd_pure {l0 l1 l2 : List Int} (hl0 : Byt l0) (hl1 : Byt l1) (hl2 : Byt l2) {b0 b1 b2 : Int} (h0 : 0 ≤ b0 ∧ b0 < 256) (h1 : 0 ≤ b1 ∧ b1 < 256) (h2 : 0 ≤ b2 ∧ b2 < 256) :
    ∃ (T : List S63) (a b n : Int) (xs ys : List S35) (p : S35) (L : List S82), chapmanref11_Types.f 100 l0 = some T ∧ T.length ≤ 1000 ∧ chapmanref32_Made.f T b0 b1 b2 = ⟨a, b, n⟩ ∧ RowOf 100 T l1 xs ∧ RowOf 100 T l2 ys ∧
      partition_Of.f 100 a b n xs = some (p.f0, p.f1, p.f2) ∧ partition_Bounds.f 100 T a b n p.f0 p.f1 p.f2 = some (L, 0) ∧ L.length = T.length ∧ (∀ j : Nat, j < T.length → OkB (L.getD j z82) ∧ HasB (L.getD j z82) (rd_T35 xs j) true) ∧
      (a = 1 ∨ a = 3 → ∃ m : Nat, b = (m : Int) ∧ m < T.length ∧ (∃ (r : Bool) (q : S35), HasB (L.getD m z82) (rd_T35 ys m) r ∧ partition_Of.f 100 a b n ys = some (q.f0, q.f1, q.f2) ∧ (q.f0 == p.f0 && (q.f1 == p.f1 && (q.f2.toList == p.f2.toList))) = r) ∧
        ((L.getD m z82).f1 = false → rd_T35 xs m = z35) ∧ ((L.getD m z82).f1 = true → partition_Of.f 100 a b n (xs.set m (L.getD m z82).f2) = some (p.f0, p.f1, p.f2) ∧ partition_Of.f 100 a b n (ys.set m (L.getD m z82).f3) = some (p.f0, p.f1, p.f2))) := by
  have hT : ∀ t ∈ typesOf l0, t ∈ ty7 := fun t ht => typesOf_mem hl0 ht
  have hl := typesOf_len l0
  obtain ⟨a, b, n, hm, hs⟩ := made_spec hT h0 h1 h2
  obtain ⟨xs, hxr, hxv⟩ := row_f hT hl1
  obtain ⟨ys, hyr, hyv⟩ := row_f hT hl2
  obtain ⟨OL, hOL⟩ := openAll_ex hT
  have hOl := openAll.length hOL
  have hopen : ∀ j : Nat, j < (typesOf l0).length → OkB (OL.getD j z82) ∧ HasB (OL.getD j z82) (rd_T35 xs j) true := fun j hj => by
    obtain ⟨x, hx, ho, hh⟩ := colO (rd63_mem hT hj)
    rw [open_at hOL hj] at hx
    obtain rfl := Option.some.inj hx
    exact ⟨okb_of ho, hasb_of ho (hh _ (hxv j hj))⟩
  rcases hs with ⟨rfl, rfl, rfl⟩ | ⟨m, rfl, hmt, hs⟩
  · have hv : partition_Valid.f (typesOf l0) 0 0 0 = some true := by
      unfold partition_Valid.f
      rw [if_pos (by omega), if_neg (by rw [good hT]; decide), if_pos rfl]
      rfl
    have hp : partition_Possible.f 100 (typesOf l0) 0 0 0 0 0 ⟨#[]⟩ = some true := by
      unfold partition_Possible.f
      rw [hv]
      simp only [Option.bind_some, if_true]
      kernel_rfl
    refine ⟨typesOf l0, 0, 0, 0, xs, ys, nul, OL, types_f hl0, by omega, hm, hxr, hyr, rfl, ?_, hOl, hopen, fun h => by omega⟩
    unfold partition_Bounds.f
    rw [if_pos (by omega)]
    have hp' : partition_Possible.f 100 (typesOf l0) 0 0 0 nul.f0 nul.f1 nul.f2 = some true := hp
    rw [hp', Option.bind_some, if_pos rfl, hOL, Option.bind_some, if_neg (by omega)]
    rfl
  · have ht := rd63_mem hT hmt
    have ha := spec_pos hs
    obtain ⟨_, hc⟩ := col1 ht hs
    obtain ⟨p, hp, hpp, _⟩ := hc _ (hxv m hmt)
    have hpo := poss_f hT hl hmt hs hpp
    by_cases ha2 : a = 2
    · refine ⟨typesOf l0, a, m, n, xs, ys, p, OL, types_f hl0, by omega, hm, hxr, hyr, Of_row (by rw [hxr.1]; exact hmt) (by omega) hp, ?_, hOl, hopen, fun h => by omega⟩
      unfold partition_Bounds.f
      rw [if_pos (by omega), hpo, Option.bind_some, if_pos rfl, hOL, Option.bind_some, if_neg (by omega)]
      rfl
    · obtain ⟨B, hB, hok, hbx, hby, hn, hy⟩ := colB ht hs ha2 (hxv m hmt) hp
      obtain ⟨q, hq, hqb⟩ := hby _ (hyv m hmt)
      have hmx : m < xs.length := by rw [hxr.1]; exact hmt
      have hmy : m < ys.length := by rw [hyr.1]; exact hmt
      have hLm : (OL.set m B).getD m z82 = B := by
        rw [List.getD_eq_getElem?_getD, List.getElem?_set]
        simp [hOl, hmt]
      refine ⟨typesOf l0, a, m, n, xs, ys, p, OL.set m B, types_f hl0, by omega, hm, hxr, hyr, Of_row hmx (by omega) hp, ?_, by rw [List.length_set]; exact hOl, fun j hj => ?_, fun _ => ⟨m, rfl, hmt, ⟨_, q, ?_, Of_row hmy (by omega) hq, rfl⟩, fun hf => ?_, fun hf => ?_⟩⟩
      · unfold partition_Bounds.f
        rw [if_pos (by omega), hpo, Option.bind_some, if_pos rfl, hOL, Option.bind_some, if_pos (by omega)]
        unfold boxT at hB
        split at hB
        · rename_i hz
          rw [if_pos hz]
          obtain rfl := Option.some.inj hB
          rfl
        · rename_i hz
          rw [if_neg hz]
          obtain ⟨u, hu, rfl⟩ := Option.map_eq_some_iff.1 hB
          have hu' : lastOf 100 a (m : Int) n p.f0 p.f1 p.f2 = some u := hu
          rw [hu']
          rfl
      · by_cases hjm : j = m
        · subst hjm
          rw [hLm]
          exact ⟨okb_of hok, hasb_of hok hbx⟩
        · have e : (OL.set m B).getD j z82 = OL.getD j z82 := by
            rw [List.getD_eq_getElem?_getD, List.getElem?_set_ne (fun e => hjm e.symm), ← List.getD_eq_getElem?_getD]
          rw [e]
          exact hopen j hj
      · rw [hLm]
        exact hasb_of hok hqb
      · rw [hLm] at hf
        exact hn hf
      · rw [hLm] at hf ⊢
        obtain ⟨e1, e2⟩ := hy hf
        refine ⟨Of_row (by rw [List.length_set]; exact hmx) (by omega) ?_, Of_row (by rw [List.length_set]; exact hmy) (by omega) ?_⟩
        · rw [set_at hmx]; exact e1
        · rw [set_at hmy]; exact e2
end Go.Proofs.YteflfnjljjianaaGreatDoor.Qx
namespace Go.Proofs.YteflfnjljjianaaGreatDoor
namespace Rw
open Go.ChangeShapes Go.WideShapes Go.ChangeAt Go.RowKit Go.Proofs.YteflfnjljjianaaGreatDoor.Qx Go.Proofs.YteflfnjljjianaaGreatDoorW.PrintWords Go.Proofs.YteflfnjljjianaaGreatDoorW.PrintLast Go.Proofs.YteflfnjljjianaaGreatDoorW.PrintMore
set_option linter.unusedVariables false
theorem own : ownKnob Tryz.prog.godebug = none := by kernel_rfl
theorem laidOut : laidOutB Tryz.prog = true := by kernel_rfl
theorem gv : Tryz.prog.globalNamed "chapman/value.steps" = some 1 := by kernel_rfl
theorem gd : Tryz.prog.globalNamed "chapman/decimal.steps" = some 2 := by kernel_rfl
theorem gvt : (Tryz.prog.globals[1]?).map (·.type) = some 172 := by kernel_rfl
theorem gdt : (Tryz.prog.globals[2]?).map (·.type) = some 172 := by kernel_rfl
theorem cells3 : Tryz.prog.cellsOf 3 = 1 := by kernel_rfl
theorem cells5 : Tryz.prog.cellsOf 5 = 1 := by kernel_rfl
theorem cells22 : Tryz.prog.cellsOf 22 = 1 := by kernel_rfl
theorem cells29 : Tryz.prog.cellsOf 29 = 3 := by kernel_rfl
theorem cells23 : Tryz.prog.cellsOf 23 = 2 := by kernel_rfl
theorem table_of {W : World} {sp : Nat → Bool} {fuel : Nat} {cs : Array Value} {p : List MemPlace}
    (h : DataW.trod (fun _ => ()) Tryz.prog W 0 sp false fuel 172 cs.toList = some (DataW.agg [.lit (.int .i64 1000000), .lit (.int .i64 100000), .lit (.int .i64 10000), .lit (.int .i64 1000), .lit (.int .i64 100), .lit (.int .i64 10), .lit (.int .i64 1)], p)) :
    ∀ i : Nat, i < 7 → cs[i]? = some (.int .i64 (stepN i)) := by
  obtain ⟨xs, m, _, hx, hl, hxl, hg⟩ := DataW.trod_array Tryz.underlying172 h
  rw [cells3] at hg
  have key : ∀ i (x : DataW Unit × List MemPlace), i < 7 → xs[i]? = some x → ∃ n, cs[i]? = some (.int .i64 n) ∧ x.1 = .lit (.int .i64 n) := by
    intro i x hi hxi
    have h1 := hg i hi
    rw [hxi] at h1
    obtain ⟨n, e, hx, _⟩ := DataW.trod_int Tryz.underlying3 h1
    refine ⟨n, ?_, by rw [hx]⟩
    have h2 : ((cs.toList.drop (i * 1)).take 1)[0]? = some (.int .i64 n) := by rw [e]; rfl
    rw [List.getElem?_take, if_pos (by omega), List.getElem?_drop] at h2
    simpa using h2
  have hm := (Prod.mk.inj hx).1
  injection hm with hm
  match xs, hxl, hm, key with
  | [x0, x1, x2, x3, x4, x5, x6], _, hm, key =>
    simp only [List.map_cons, List.map_nil, List.cons.injEq, and_true] at hm
    obtain ⟨e0, e1, e2, e3, e4, e5, e6⟩ := hm
    intro i hi
    match i, hi with
    | 0, hi => obtain ⟨n, hc, hn⟩ := key 0 x0 hi rfl; rw [← e0] at hn; injection hn with hn; injection hn with _ hn; rw [hc, ← hn]; rfl
    | 1, hi => obtain ⟨n, hc, hn⟩ := key 1 x1 hi rfl; rw [← e1] at hn; injection hn with hn; injection hn with _ hn; rw [hc, ← hn]; rfl
    | 2, hi => obtain ⟨n, hc, hn⟩ := key 2 x2 hi rfl; rw [← e2] at hn; injection hn with hn; injection hn with _ hn; rw [hc, ← hn]; rfl
    | 3, hi => obtain ⟨n, hc, hn⟩ := key 3 x3 hi rfl; rw [← e3] at hn; injection hn with hn; injection hn with _ hn; rw [hc, ← hn]; rfl
    | 4, hi => obtain ⟨n, hc, hn⟩ := key 4 x4 hi rfl; rw [← e4] at hn; injection hn with hn; injection hn with _ hn; rw [hc, ← hn]; rfl
    | 5, hi => obtain ⟨n, hc, hn⟩ := key 5 x5 hi rfl; rw [← e5] at hn; injection hn with hn; injection hn with _ hn; rw [hc, ← hn]; rfl
    | 6, hi => obtain ⟨n, hc, hn⟩ := key 6 x6 hi rfl; rw [← e6] at hn; injection hn with hn; injection hn with _ hn; rw [hc, ← hn]; rfl
noncomputable def tblW (w : World) : World :=
  { w with heap := (w.heap.modify 1 fun
      | .cells _ t frozen => .cells #[.int .i64 1000000, .int .i64 100000, .int .i64 10000, .int .i64 1000, .int .i64 100, .int .i64 10, .int .i64 1] t frozen
      | o => o).modify 2 fun
      | .cells _ t frozen => .cells #[.int .i64 1000000, .int .i64 100000, .int .i64 10000, .int .i64 1000, .int .i64 100, .int .i64 10, .int .i64 1] t frozen
      | o => o }
noncomputable def laidW (os : Os) : World := tblW (World.holding Tryz.prog os ⟨#[], #[], []⟩)
theorem bytes_of {H : Type} {enc : TypeId × Value → H} {W : World} {fuel : Nat} {cs : List Value} {x : DataW H × List MemPlace} (h : DataW.trod enc Tryz.prog W 0 (fun _ => true) true fuel 22 cs = some x) :
    ∃ A l c, cs = [.slice A (List.length l) c] ∧ l.length ≤ c ∧ Kd.C (Kd.int .u8) W A l.length l ∧ Byt l := by
  have wfb : ∀ x : Int, (Lit.int .u8 x).wf = true → 0 ≤ x ∧ x < 256 := fun x h => by
    simp [Lit.wf, IntKind.min, IntKind.max, IntKind.signed, IntKind.bits] at h
    omega
  have fin : ∀ (A : Option Addr) (len cap : Nat) (zs : List Int), ((A = none ∧ len = 0 ∧ cap = 0 ∧ zs = []) ∨ ∃ x, A = some x ∧ len ≤ cap ∧ cap ≤ maxLen ∧ zs.length = cap ∧ (∀ i, i < zs.length → W.cell? (x.add i) = some (.int .u8 (zs.getD i 0))) ∧ ∀ n ∈ zs, (Lit.int .u8 n).wf = true) →
      ∃ A' l c, [Value.slice A len cap] = [.slice A' (List.length l) c] ∧ l.length ≤ c ∧ Kd.C (Kd.int .u8) W A' l.length l ∧ Byt l := by
    intro A len cap zs h
    obtain ⟨l, rfl, hr, hm, hw, hc⟩ := ReadsInt.ofRowC h
    exact ⟨A, l, cap, rfl, hc, Kd.C_of_reads (d := (0 : Int)) (h1 := fun _ => rfl) hr, fun x hx => wfb x (hw x hx)⟩
  rcases open_ints Tryz.underlying22 Tryz.underlying5 cells5 h with ⟨rfl, _⟩ | ⟨x, l, c, zs, rfl, _, hl, hm, hz, _, hcell, hwz⟩
  · exact fin none 0 0 [] (.inl ⟨rfl, rfl, rfl, rfl⟩)
  · exact fin (some x) l c zs (.inr ⟨x, rfl, hl, hm, by simpa using hz, hcell, hwz⟩)
set_option maxRecDepth 100000 in
theorem three_of {H : Type} {enc : TypeId × Value → H} {W : World} {base : Nat} {v : Value} {d : DataW H} {p : List MemPlace} (hv : Value.okWide Tryz.prog W .any base 29 v) (h : DataW.Trod enc Tryz.prog W 0 (fun _ => true) true 29 v d p) :
    ∃ b0 b1 b2 : Int, v = .agg #[.int .u8 b0, .int .u8 b1, .int .u8 b2] ∧ (0 ≤ b0 ∧ b0 < 256) ∧ (0 ≤ b1 ∧ b1 < 256) ∧ (0 ≤ b2 ∧ b2 < 256) := by
  have wfb : ∀ x : Int, (Lit.int .u8 x).wf = true → 0 ≤ x ∧ x < 256 := fun x h => by
    simp [Lit.wf, IntKind.min, IntKind.max, IntKind.signed, IntKind.bits] at h
    omega
  obtain ⟨cs, rfl, hsz, _⟩ : ∃ cs, v = .agg cs ∧ cs.size = Tryz.prog.cellsOf 29 ∧ Row.okWide Tryz.prog W .any base 29 cs := by
    simpa [Value.okWide, Tryz.underlying29] using hv
  rw [cells29] at hsz
  obtain ⟨l⟩ := cs
  match l, hsz, h with
  | [c0, c1, c2], _, h =>
    obtain ⟨fuel, hf⟩ := h
    obtain ⟨y0, y1, y2, m, _, hy0, hy1, hy2⟩ := trod_array3 Tryz.underlying29 cells5 hf
    obtain ⟨x0, e0, _, w0⟩ := DataW.trod_int Tryz.underlying5 hy0
    obtain ⟨x1, e1, _, w1⟩ := DataW.trod_int Tryz.underlying5 hy1
    obtain ⟨x2, e2, _, w2⟩ := DataW.trod_int Tryz.underlying5 hy2
    simp at e0 e1 e2
    subst e0 e1 e2
    exact ⟨x0, x1, x2, rfl, wfb _ w0, wfb _ w1, wfb _ w2⟩
set_option maxRecDepth 100000 in
theorem two_of {H : Type} {enc : TypeId × Value → H} {W : World} {base : Nat} {v : Value} {d : DataW H} {p : List MemPlace} (hv : Value.okWide Tryz.prog W .any base 23 v) (h : DataW.Trod enc Tryz.prog W 0 (fun _ => true) true 23 v d p) :
    ∃ A1 l1 c1 A2 l2 c2, v = .agg #[.slice A1 (List.length l1) c1, .slice A2 (List.length l2) c2] ∧ l1.length ≤ c1 ∧ Kd.C (Kd.int .u8) W A1 l1.length l1 ∧ Byt l1 ∧ l2.length ≤ c2 ∧ Kd.C (Kd.int .u8) W A2 l2.length l2 ∧ Byt l2 := by
  obtain ⟨cs, rfl, hsz, _⟩ : ∃ cs, v = .agg cs ∧ cs.size = Tryz.prog.cellsOf 23 ∧ Row.okWide Tryz.prog W .any base 23 cs := by
    simpa [Value.okWide, Tryz.underlying23] using hv
  rw [cells23] at hsz
  obtain ⟨l⟩ := cs
  match l, hsz, h with
  | [s0, s1], _, h =>
    obtain ⟨fuel, hf⟩ := h
    obtain ⟨xs, m, _, _, _, hxl, hg⟩ := DataW.trod_array Tryz.underlying23 hf
    rw [cells22] at hg
    match xs, hxl, hg with
    | [x0, x1], _, hg =>
      have h0 := hg 0 (by omega)
      have h1 := hg 1 (by omega)
      obtain ⟨A1, l1, c1, e1, k1, r1, y1⟩ := bytes_of h0
      obtain ⟨A2, l2, c2, e2, k2, r2, y2⟩ := bytes_of h1
      simp [Value.cells] at e1 e2
      subst e1 e2
      exact ⟨A1, l1, c1, A2, l2, c2, rfl, k1, r1, y1, k2, r2, y2⟩
theorem gn : Tryz.prog.globalNamed "chapman/bounds.null" = some 0 := by kernel_rfl
theorem gnt : (Tryz.prog.globals[0]?).map (·.type) = some 35 := by kernel_rfl
theorem cells9 : Tryz.prog.cellsOf 9 = 1 := by kernel_rfl
theorem null_of {W : World} {sp : Nat → Bool} {fuel : Nat} {cs : Array Value} {p : List MemPlace}
    (h : DataW.trod (fun _ => ()) Tryz.prog W 0 sp false fuel 35 cs.toList = some (DataW.agg [.lit (.int .i64 0), .lit (.int .i64 0), .lit (.string [])], p)) :
    cs[0]? = some (.int .i64 0) ∧ cs[1]? = some (.int .i64 0) ∧ cs[2]? = some (.string ⟨#[]⟩) := by
  obtain ⟨xs, m, _, hx, hl, hxl, hg⟩ := DataW.trod_struct Tryz.underlying35 h
  match xs, hxl, hx, hg with
  | [x0, x1, x2], _, hx, hg =>
    have g0 : DataW.trod (fun _ => ()) Tryz.prog W 0 sp false m 3 ((cs.toList.drop 0).take (Tryz.prog.cellsOf 3)) = some x0 := hg 0 _ rfl
    have g1 : DataW.trod (fun _ => ()) Tryz.prog W 0 sp false m 3 ((cs.toList.drop 1).take (Tryz.prog.cellsOf 3)) = some x1 := hg 1 _ rfl
    have g2 : DataW.trod (fun _ => ()) Tryz.prog W 0 sp false m 9 ((cs.toList.drop 2).take (Tryz.prog.cellsOf 9)) = some x2 := hg 2 _ rfl
    rw [cells3, List.drop_zero] at g0
    rw [cells3] at g1
    rw [cells9] at g2
    obtain ⟨n0, e0, y0, _⟩ := DataW.trod_int Tryz.underlying3 g0
    obtain ⟨n1, e1, y1, _⟩ := DataW.trod_int Tryz.underlying3 g1
    obtain ⟨s, e2, y2, _⟩ := DataW.trod_string Tryz.underlying9 g2
    have hm := (Prod.mk.inj hx).1
    injection hm with hm
    simp only [List.map_cons, List.map_nil, List.cons.injEq, and_true] at hm
    obtain ⟨m0, m1, m2⟩ := hm
    rw [y0] at m0
    rw [y1] at m1
    rw [y2] at m2
    injection m0 with m0; injection m0 with _ m0
    injection m1 with m1; injection m1 with _ m1
    injection m2 with m2; injection m2 with m2
    subst m0 m1
    have hs : s = ⟨#[]⟩ := by
      obtain ⟨d⟩ := s
      have : d.toList = [] := m2.symm
      congr 1
      exact Array.ext' this
    subst hs
    obtain ⟨l⟩ := cs
    have q0 : (l.take 1)[0]? = some (.int .i64 0) := by rw [e0]; rfl
    have q1 : ((l.drop 1).take 1)[0]? = some (.int .i64 0) := by rw [e1]; rfl
    have q2 : ((l.drop 2).take 1)[0]? = some (.string ⟨#[]⟩) := by rw [e2]; rfl
    rw [List.getElem?_take, if_pos (by omega)] at q0 q1 q2
    rw [List.getElem?_drop] at q1 q2
    exact ⟨by simpa using q0, by simpa using q1, by simpa using q2⟩
def laidL3 : List (String × DataW Unit) := [("chapman/decimal.steps", Rows.laid_chapman_decimal_steps), ("chapman/value.steps", Rows.laid_chapman_value_steps), ("chapman/bounds.null", Rows.laid_chapman_bounds_null)]
theorem laid3_of {W : World} (h : laidMetH Tryz.prog laidL3 W) : LaidN W := by
  obtain ⟨ps, ⟨g, t, cs, fuel, p, q, hg, ht, hc, hd, ⟨g', t', cs', fuel', p', q', hg', ht', hc', hd', ⟨g2, t2, cs2, fuel2, p2, q2, hg2, ht2, hc2, hd2, _⟩, _⟩, _⟩, _⟩ := (show laidMet Tryz.prog laidL3 W from h)
  obtain rfl := Option.some.inj (gd.symm.trans hg)
  obtain rfl := Option.some.inj (gdt.symm.trans ht)
  obtain rfl := Option.some.inj (gv.symm.trans hg')
  obtain rfl := Option.some.inj (gvt.symm.trans ht')
  obtain rfl := Option.some.inj (gn.symm.trans hg2)
  obtain rfl := Option.some.inj (gnt.symm.trans ht2)
  obtain ⟨e0, e1, e2⟩ := null_of hd2
  exact ⟨⟨fun i hi => (World.var?_cell gv hc' i).trans (table_of hd' i hi), fun i hi => (World.var?_cell gd hc i).trans (table_of hd i hi)⟩, (World.var?_cell gn hc2 0).trans e0, (World.var?_cell gn hc2 1).trans e1, (World.var?_cell gn hc2 2).trans e2⟩
theorem laidW_met3 (os : Os) (args : Array Value) : laidMetH Tryz.prog laidL3 ((laidW os).forCall (fun _ _ => 0) ⟨#[], args, []⟩).memory :=
  show laidMet Tryz.prog laidL3 _ from laidMet_of_run' 8 (by kernel_rfl) (by kernel_rfl)
set_option maxRecDepth 100000 in
theorem bnd_lifted (os : Os) (started : os.Started) (H : Type) (enc : TypeId × Value → H) :
    ReturnsInHanded {} Tryz.checked os 7 .any (fun w args => (Rows.partitionBoundsSpec.pre enc Tryz.prog Tryz.f7 [] false w args ∧ laidMetH Tryz.prog laidL3 w) ∧ sizedMet enc Tryz.prog Tryz.f7 (OpenSpec.ofChange Rows.partitionBoundsSpec) false w args)
      (Rows.partitionBoundsSpec.post enc Tryz.prog Tryz.f7 false true false false) := by
  refine returnsInHanded_of_change_and (C := Tryz.checked) (X := fun w _ => laidMetH Tryz.prog laidL3 w) (fun _ _ _ hh h => h.of_heap hh) own started (by kernel_rfl) Tryz.func7
    (ChangeSpec.witness_at (enc := enc) (C := Tryz.checked) (os := os) (X := fun w _ => laidMetH Tryz.prog laidL3 w) false (laidW os) #[.slice none 0 0, .agg #[.int .u8 0, .int .u8 0, .int .u8 0], .agg #[.slice none 0 0, .slice none 0 0]] 8 rfl (by kernel_rfl) (by kernel_rfl) (by kernel_rfl) (by kernel_rfl) (by kernel_rfl) (laidW_met3 os _)) ?_
  intro W base args ds gs before hval0 hW _ _ hL _
  have hval : ∀ (j : Nat) t v, Tryz.f7.params[j]? = some t → args[j]? = some v → Value.okWide Tryz.prog W .any base t v := hval0
  have hW' := hW
  obtain ⟨p, q, hA0, hV, rfl, hfz, hnd⟩ := hW
  have hA : DataW.TrodAll enc Tryz.prog W 0 (fun _ => true) true Tryz.f7.params.toList args.toList ds p := hA0
  rw [Tryz.params7] at hA hval
  obtain ⟨v0, vs0, d0, ds0, p0, q0, hargs, rfl, rfl, h0, r0⟩ := trodAll_cons hA
  obtain ⟨v1, vs1, d1, ds1, p1, q1, rfl, rfl, rfl, h1, r1⟩ := trodAll_cons r0
  obtain ⟨v2, vs2, d2, ds2, p2, q2, rfl, rfl, rfl, h2, r2⟩ := trodAll_cons r1
  obtain ⟨rfl, rfl, rfl⟩ := trodAll_nil r2
  obtain rfl : args = #[v0, v1, v2] := by cases args; simp_all
  obtain ⟨rfl, rfl⟩ := trodVars_none hV
  have k0 := h0
  have k1 := h1
  have k2 := h2
  have lt0 : ∀ x ∈ p0, x.block < W.heap.size := by obtain ⟨m, hm⟩ := k0; exact DataW.trod_lt m _ _ _ hm
  have lt1 : ∀ x ∈ p1, x.block < W.heap.size := by obtain ⟨m, hm⟩ := k1; exact DataW.trod_lt m _ _ _ hm
  have lt2 : ∀ x ∈ p2, x.block < W.heap.size := by obtain ⟨m, hm⟩ := k2; exact DataW.trod_lt m _ _ _ hm
  obtain ⟨a0, len0, cap0, rfl⟩ := okWide_slice Tryz.underlying22 (hval 0 22 v0 rfl rfl)
  obtain ⟨fuel, hf⟩ := h0
  obtain ⟨A0, l0, c0, e0, hc0, hr0, hy0⟩ := bytes_of hf
  obtain ⟨b0, b1, b2, rfl, hb0, hb1, hb2⟩ := three_of (hval 1 29 v1 rfl rfl) h1
  obtain ⟨A1, l1, c1, A2, l2, c2, rfl, hc1, hr1, hy1, hc2, hr2, hy2⟩ := two_of (hval 2 23 v2 rfl rfl) h2
  simp only [Value.cells, List.cons.injEq, and_true] at e0
  injection e0 with e0 e1 e2
  subst e0 e1 e2
  obtain ⟨T, a, b, n, xs, ys, p', L', g1, g2, g3, g4, g5, g6, g7, g8, g9, g10⟩ := bnd_pure hy0 hy1 hy2 hb0 hb1 hb2
  clear hA0 hval0
  refine (chapmanlaw32_PartitionBounds.calls a0 cap0 l0 b0 b1 b2 A1 c1 l1 A2 c2 l2 W (laid3_of hL) hr0 hc0 hr1 hc1 hr2 hc2 hb0 hb1 hb2 hy1 hy2 T g1 g2 a b n g3 xs ys g4 g5 p' g6 L' g7 g8 g9 g10).mono fun e W' ⟨he, bel⟩ => ?_
  subst he
  exact ⟨_, rfl, _, _, _, [], _, [], hW', trodAll_mk1 (shut_bool Tryz.underlying4 _),
    trodAll_cons_mk (Below.trod laidOut (by kernel_rfl) (of_decide_eq_true (by kernel_rfl)) k0 bel lt0) (trodAll_cons_mk (Below.trod laidOut (by kernel_rfl) (of_decide_eq_true (by kernel_rfl)) k1 bel lt1) (trodAll_cons_mk (Below.trod laidOut (by kernel_rfl) (of_decide_eq_true (by kernel_rfl)) k2 bel lt2) trodAll_mk0)), rfl, bel.frame _, fun h => by cases h⟩
theorem bnd_row : Rows.PartitionBoundsSaid :=
  OpenClaim.holds_of_wide 7 Tryz.f7 rfl rfl rfl rfl rfl rfl rfl ⟨rfl, rfl, rfl, rfl, rfl⟩ rfl rfl rfl rfl rfl (by kernel_rfl) Tryz.func7 (by kernel_rfl)
    (of_decide_eq_true (by kernel_rfl)) (by unfold Func.isWrapper; first | (rw [if_pos (by decide +kernel)]; kernel_rfl) | (rw [if_neg (by decide +kernel)]; exact ⟨rfl, rfl⟩))
    (fun os started H enc _ => bnd_lifted os started H enc)
theorem bnd_card : Rows.PartitionBoundsCardSaid :=
  Claim7.holds_tied_plain_at .later [] [.data, .data, .data] true (true, "ce419de17c798dc981aef98fc54f8a5232ef72c256b58cd68ef6717b0c115c19") false
    bnd_row (fun _ h => by cases h) (by kernel_rfl) (fun _ h => by cases h) partitionBounds_row_tie rfl ⟨rfl, rfl⟩ (by kernel_rfl) rfl
    (fun f fn hf hfn => by
      obtain rfl : f = 7 := Option.some.inj ((show Tryz.prog.funcNamed "chapman/chapmanlaw32.PartitionBounds" = some 7 by kernel_rfl).symm.trans hf) |>.symm
      obtain rfl : fn = Tryz.f7 := (Option.some.inj (Tryz.func7.symm.trans hfn)).symm
      exact ⟨by kernel_rfl, fun j t ht => by
        rw [Tryz.params7] at ht
        rcases j with _ | _ | _ | j
        · obtain rfl : 22 = t := by simpa using ht
          exact (show Tryz.prog.wantsStandIn 22 = false by kernel_rfl)
        · obtain rfl : 29 = t := by simpa using ht
          exact (show Tryz.prog.wantsStandIn 29 = false by kernel_rfl)
        · obtain rfl : 23 = t := by simpa using ht
          exact (show Tryz.prog.wantsStandIn 23 = false by kernel_rfl)
        · simp at ht⟩)
    (by kernel_rfl)
#print axioms bnd_card
end Rw
end Go.Proofs.YteflfnjljjianaaGreatDoor
