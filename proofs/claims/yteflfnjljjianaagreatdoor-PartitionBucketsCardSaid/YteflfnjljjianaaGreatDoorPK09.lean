/- Part of a proof of PartitionBucketsCardSaid: functions of the given program and what they compute, each checked by the kernel. -/
import Derived.Test.YteflfnjljjianaaGreatDoorPK02
import Derived.Test.YteflfnjljjianaaGreatDoorPK08
import Derived.Test.YteflfnjljjianaaGreatDoorPK05
import Derived.Maps.AppendAt
import Derived.Deep.AppendLies
import Derived.Maps.OwnRows
import Derived.Maps.GroupsBeside
import Derived.DeepKeys3
import Derived.WideKeyEntry
import Derived.DeepKeys4
import Derived.Sort.MapsRangeIn
import Derived.Sort.KeysCollected
import Derived.RangeFuncFrom
import Derived.RangeFuncCalls
import Derived.RangeFuncNested
import Derived.OwnWalkIn
import Derived.TacticsInMore
import Derived.LoopNIn
import Derived.LoopIn
import Derived.RangeFuncLeaves
import Derived.RangeFuncBox
import Derived.Shelf.RegionOpen
import Derived.Shelf.Abstract
import Derived.Shelf.SlSortCmp.WholeK
import Derived.Shelf.SlSortCmp.NoneTotal
import Derived.Deep.RegionHeld3
import Derived.Test.YteflfnjljjianaaGreatDoorPK07
namespace Go.Proofs.YteflfnjljjianaaGreatDoor.Qx
open Go.RowKit Go.Proofs.YteflfnjljjianaaGreatDoorW.PrintWords Go.Proofs.YteflfnjljjianaaGreatDoorW.PrintLast Go.Proofs.YteflfnjljjianaaGreatDoorW.PrintMore
attribute [local go_sem] max2_int min2_int max_two min_two
set_option linter.unusedVariables false
set_option linter.unusedSimpArgs false
open Go.Maps in
theorem law35 : Keyed Tryz.prog 35 := Keyed.of_law (deep_law (m := 3) (by omega) (by kernel_rfl) (by kernel_rfl) (by kernel_rfl))
def keyV (x : S35) : Value := .agg #[.int .i64 x.f0, .int .i64 x.f1, .string x.f2]
def keyL (x : S35) : Lit := .string (keyBytes [.int .i64 x.f0, .int .i64 x.f1, .string x.f2.data.toList])
def OkKey (x : S35) : Prop := (Lit.int .i64 x.f0).wf = true ∧ (Lit.int .i64 x.f1).wf = true ∧ x.f2.size ≤ 1000000
theorem key35_size : ∃ m, Tryz.prog.types.size = m + 3 := ⟨Tryz.prog.types.size - 3, by
  have h : 3 ≤ Tryz.prog.types.size := of_decide_eq_true (by kernel_rfl)
  omega⟩
theorem keyOf35 (x : S35) (h : OkKey x) : keyOf Tryz.prog 35 (keyV x) = some (keyL x) := by
  obtain ⟨m, hm⟩ := key35_size
  have hkt : Tryz.prog.keyType 35 = true := by kernel_rfl
  have h35 : Tryz.prog.cellsOf 35 = 3 := by kernel_rfl
  have h3 : Tryz.prog.cellsOf 3 = 1 := by kernel_rfl
  have h9 : Tryz.prog.cellsOf 9 = 1 := by kernel_rfl
  have u3 := Tryz.underlying3
  have u9 := Tryz.underlying9
  obtain ⟨w0, w1, w2⟩ := h
  have w2' : x.f2.size ≤ maxLen := by unfold maxLen; omega
  unfold keyOf keyV
  simp only [Tryz.underlying35]
  rw [if_pos (by simp [hkt, Value.formed, Tryz.underlying35, h35]), hm]
  unfold Program.keyLits
  simp only [Tryz.underlying35, Value.cells]
  rw [if_pos (by simp [h35])]
  simp [h3, h9, Program.keyLits, u3, u9, w0, w1, w2', keyL]
theorem keyV_inj {x y : S35} (h : keyV x = keyV y) : x = y := by
  cases x; cases y
  simpa [keyV] using h
theorem keyL_inj {x y : S35} (hx : OkKey x) (hy : OkKey y) (h : keyL x = keyL y) : x = y := keyV_inj (law35.inj (keyOf35 x hx) (h ▸ keyOf35 y hy))
open Go.Maps Go.MapKept Go.ChangeShapes Go.WideElems Go.ChangeMaps
def eq35 (x y : S35) : Bool := x.f0 == y.f0 && (x.f1 == y.f1 && x.f2.toList == y.f2.toList)
theorem bytes_ext {a b : ByteArray} (h : a.toList = b.toList) : a = b := by
  have h1 : a.data.toList = b.data.toList := by simpa [Lib.toList_data] using h
  cases a; cases b
  simpa using h1
theorem eq35_iff (x y : S35) : eq35 x y = true ↔ x = y := by
  constructor
  · intro h
    simp only [eq35, Bool.and_eq_true, beq_iff_eq] at h
    obtain ⟨h0, h1, h2⟩ := h
    cases x; cases y
    simp only at h0 h1 h2
    subst h0 h1
    rw [bytes_ext h2]
  · rintro rfl
    simp [eq35]
def addTo : List (S35 × List Int) → S35 → Int → List (S35 × List Int)
  | [], p, i => [(p, [i])]
  | x :: L, p, i => if eq35 x.1 p = true then (x.1, x.2 ++ [i]) :: L else x :: addTo L p i
def idsOf : List (S35 × List Int) → S35 → List Int
  | [], _ => []
  | x :: L, p => if eq35 x.1 p = true then x.2 else idsOf L p
theorem addTo_new : ∀ {L : List (S35 × List Int)} {p : S35} (i : Int), (∀ x ∈ L, x.1 ≠ p) → addTo L p i = L ++ [(p, [i])] ∧ idsOf L p = []
  | [], p, i, _ => ⟨rfl, rfl⟩
  | x :: L, p, i, h => by
    have hx : ¬ eq35 x.1 p = true := fun e => h x (by simp) ((eq35_iff _ _).1 e)
    have ih := addTo_new (L := L) (p := p) i (fun y hy => h y (by simp [hy]))
    simp only [addTo, idsOf, if_neg hx, ih.1, ih.2]
    exact ⟨by first | rfl | trivial, by first | rfl | trivial⟩
theorem addTo_old : ∀ {L : List (S35 × List Int)} {p : S35} (i : Int) (j : Nat) (zs : List Int), (L.map (·.1)).Nodup → L[j]? = some (p, zs) → addTo L p i = L.set j (p, zs ++ [i]) ∧ idsOf L p = zs
  | [], _, _, _, _, _, h => by simp at h
  | x :: L, p, i, 0, zs, _, h => by
    obtain rfl : x = (p, zs) := by simpa using h
    simp [addTo, idsOf, (eq35_iff p p).2 rfl]
  | x :: L, p, i, j + 1, zs, hn, h => by
    have hn' := List.nodup_cons.1 (by simpa only [List.map_cons] using hn)
    have hL : L[j]? = some (p, zs) := by simpa using h
    have hx : ¬ eq35 x.1 p = true := fun e => by
      have e' := (eq35_iff _ _).1 e
      exact hn'.1 (List.mem_map.2 ⟨(p, zs), List.mem_of_getElem? hL, e'.symm⟩)
    have ih := addTo_old i j zs hn'.2 hL
    simp only [addTo, idsOf, if_neg hx, ih.1, ih.2]
    exact ⟨by first | rfl | trivial, by first | rfl | trivial⟩
def GM (w : World) (B b : Nat) (L : List (S35 × List Int)) : Prop :=
  ∃ (es : Array MapEntry) (clock : Nat), w.heap[b]? = some (.map es clock) ∧ Stamped es clock ∧ b < B ∧ es.toList.map (·.key) = L.map (fun x => keyV x.1) ∧ (∀ x ∈ L, OkKey x.1) ∧ (L.map (·.1)).Nodup ∧
    (∀ (j : Nat) (e : MapEntry) (x : S35 × List Int), es.toList[j]? = some e → L[j]? = some x → w.ownsInts B 3 .i64 e.val x.2) ∧
    ∀ (i j : Nat) (ei ej : MapEntry), es.toList[i]? = some ei → es.toList[j]? = some ej → i ≠ j → ei.val.ownBlock = none ∨ ei.val.ownBlock ≠ ej.val.ownBlock
theorem GM.made (w : World) : GM (w.alloc (.map #[] 0)) (w.heap.size + 1) w.heap.size [] :=
  ⟨#[], 0, (MapKept.heap_alloc w _).1, stamped_empty 0, Nat.lt_succ_self _, rfl, by simp, by simp, by simp, by simp⟩
theorem ownsInts_kept {w w' : World} {B : Nat} {v : Value} {zs : List Int} {row : Option Nat} (h : w.ownsInts B 3 .i64 v zs) (hg : w.grownBy w' row) (hne : v.ownBlock = none ∨ v.ownBlock ≠ row) : w'.ownsInts B 3 .i64 v zs := ⟨h.1.kept hg hne, h.2⟩
theorem GM.kept {w w' : World} {B b : Nat} {L : List (S35 × List Int)} (h : GM w B b L) (hb : Below w.heap.size w w') : GM w' B b L := by
  obtain ⟨es, clock, h1, h2, h3, h4, h5, h6, h7, h8⟩ := h
  have hlt : b < w.heap.size := (Array.getElem?_eq_some_iff.1 h1).1
  have hg : w.grownBy w' none := ⟨hb.os, hb.tape, hb.output, hb.size, fun k hk _ => hb.block k hk⟩
  exact ⟨es, clock, (hb.block _ hlt).trans h1, h2, h3, h4, h5, h6, fun j e x he hx => ownsInts_kept (h7 j e x he hx) hg (by cases e.val.ownBlock <;> simp), h8⟩
theorem keys_ok {es : Array MapEntry} {L : List (S35 × List Int)} (h4 : es.toList.map (·.key) = L.map (fun x => keyV x.1)) (h5 : ∀ x ∈ L, OkKey x.1) : ∀ e ∈ es.toList, ∃ l, keyOf Tryz.prog 35 e.key = some l := by
  intro e he
  have : e.key ∈ es.toList.map (·.key) := List.mem_map.2 ⟨e, he, rfl⟩
  rw [h4] at this
  obtain ⟨x, hx, e1⟩ := List.mem_map.1 this
  exact ⟨keyL x.1, by rw [← e1]; exact keyOf35 x.1 (h5 x hx)⟩
theorem zero75 (w : World) : (zeroValue 75).run Tryz.prog w = .ok (.slice none 0 0) w := by kernel_rfl
theorem grownBy_setBlock (w : World) (b : Nat) (o : Obj) : w.grownBy (setBlock w b o) (some b) :=
  ⟨rfl, rfl, rfl, by simp [setBlock], fun k hk hne => by
    have : b ≠ k := fun e => hne (by rw [e])
    simp [setBlock, Array.getElem?_setIfInBounds, this]⟩
theorem size_setBlock (w : World) (b : Nat) (o : Obj) : (setBlock w b o).heap.size = w.heap.size := by simp [setBlock]
theorem heap_setBlock (w : World) (b : Nat) (o : Obj) (h : b < w.heap.size) : (setBlock w b o).heap[b]? = some o := by simp [setBlock, Array.getElem?_setIfInBounds, h]
theorem GM.entry {w : World} {B b : Nat} {L : List (S35 × List Int)} (h : GM w B b L) (p : S35) (hp : OkKey p) (i : Int) :
    ∃ (v : Value) (st : Nat) (W1 : World), (Instr.mapEntry 128 (.map (some b)) (keyV p)).run Tryz.prog w = .ok (.tuple #[v, goInt st]) W1 ∧ w.grownBy W1 (some b) ∧ W1.heap.size = w.heap.size ∧ W1.ownsInts B 3 .i64 v (idsOf L p) ∧
      ∀ (w1 : World) (v' : Value), W1.grownBy w1 v.ownBlock → w1.ownsInts B 3 .i64 v' (idsOf L p ++ [i]) → (v'.ownBlock = v.ownBlock ∨ v'.ownBlock = some W1.heap.size) →
        ∃ w2, (Instr.entryStore 128 (.map (some b)) (goInt st) v').run Tryz.prog w1 = .ok () w2 ∧ w1.grownBy w2 (some b) ∧ w2.heap.size = w1.heap.size ∧ GM w2 B b (addTo L p i) := by
  obtain ⟨es, clock, hb, hst, hbB, h4, h5, h6, h7, h8⟩ := h
  have hlt : b < w.heap.size := (Array.getElem?_eq_some_iff.1 hb).1
  obtain ⟨s1, s2, s3⟩ := hst
  have hkey := keyOf35 p hp
  have ht := Tryz.underlying128
  rcases law35.find w hkey es.toList (keys_ok h4 h5) with ⟨f1, f2⟩ | ⟨j, e0, f1, f2, f3⟩
  · have hnew : ∀ x ∈ L, x.1 ≠ p := by
      intro x hx e1
      have : keyV x.1 ∈ es.toList.map (·.key) := by rw [h4]; exact List.mem_map.2 ⟨x, hx, rfl⟩
      obtain ⟨e, he, e2⟩ := List.mem_map.1 this
      exact f2 e he (by rw [e2, e1])
    obtain ⟨a1, a2⟩ := addTo_new i hnew
    refine ⟨.slice none 0 0, clock, setBlock w b (.map (es.push ⟨keyV p, .slice none 0 0, clock⟩) (clock + 1)), ?_, grownBy_setBlock _ _ _, size_setBlock _ _ _, ?_, ?_⟩
    · simp [Instr.mapEntry, run_underlying ht, MapKept.run_getObj_map hb, law35.check w false hkey, f1, zero75, MapKept.run_setObj_map _ hb, Result.andThen, setBlock]
    · rw [a2]
      exact World.ownsInts_nil _ _ _ _
    · intro w1 v' hg1 hv' hloc
      have hb1 : w1.heap[b]? = some (.map (es.push ⟨keyV p, .slice none 0 0, clock⟩) (clock + 1)) := (hg1.block b (by rw [size_setBlock]; exact hlt) (by simp [Value.ownBlock])).trans (heap_setBlock _ _ _ hlt)
      have hidx : (es.push ⟨keyV p, .slice none 0 0, clock⟩).findIdx? (fun e => ((e.born : Nat) : Int) == ((clock : Nat) : Int)) = some es.size := by
        rw [findIdx_arr]
        exact findIdx_born (l := (es.push ⟨keyV p, .slice none 0 0, clock⟩).toList) (j := es.size) (e0 := ⟨keyV p, .slice none 0 0, clock⟩) (by
          simp only [Array.toList_push, List.map_append, List.map_cons, List.map_nil]
          refine List.nodup_append.2 ⟨s2, by simp, fun a ha c hc e1 => ?_⟩
          simp only [List.mem_singleton] at hc
          obtain ⟨x, hx, rfl⟩ := List.mem_map.1 ha
          have := s1 x hx
          omega) (by simp)
      have hmod : (es.push ⟨keyV p, .slice none 0 0, clock⟩).modify es.size (fun e => { e with val := v' }) = es.push ⟨keyV p, v', clock⟩ := by
        apply Array.ext'
        rw [Array.toList_modify, Array.toList_push, Array.toList_push, ← Array.length_toList, modify_last]
      refine ⟨setBlock w1 b (.map (es.push ⟨keyV p, v', clock⟩) (clock + 1)), ?_, grownBy_setBlock _ _ _, size_setBlock _ _ _, ?_⟩
      · simp [Instr.entryStore, MapKept.run_getObj_map hb1, asInt, asIntOf, goInt, hidx, hmod, MapKept.run_setObj_map _ hb1, Result.andThen, setBlock]
      · have hlt1 : b < w1.heap.size := (Array.getElem?_eq_some_iff.1 hb1).1
        have hlen : es.toList.length = L.length := by
          have := congrArg List.length h4
          simpa using this
        have keep : ∀ (v : Value) (zs : List Int), w.ownsInts B 3 .i64 v zs → (setBlock w1 b (.map (es.push ⟨keyV p, v', clock⟩) (clock + 1))).ownsInts B 3 .i64 v zs := by
          intro v zs hv
          have hne : v.ownBlock = none ∨ v.ownBlock ≠ some b := by
            cases hvb : v.ownBlock with
            | none => exact .inl rfl
            | some g =>
              have := (hv.1.lt g hvb).1
              exact .inr (fun e => by cases e; omega)
          exact ownsInts_kept (ownsInts_kept (ownsInts_kept hv (grownBy_setBlock _ _ _) hne) hg1 (by cases v.ownBlock <;> simp [Value.ownBlock])) (grownBy_setBlock _ _ _) hne
        have hnb : v'.ownBlock ≠ some b := by
          intro e
          have := (hv'.1.lt b e).1
          omega
        rw [a1]
        rw [a2] at hv'
        refine ⟨es.push ⟨keyV p, v', clock⟩, clock + 1, heap_setBlock _ _ _ hlt1, ⟨?_, ?_, ?_⟩, hbB, ?_, ?_, ?_, ?_, ?_⟩
        · intro x hx
          simp only [Array.toList_push, List.mem_append, List.mem_singleton] at hx
          rcases hx with hx | rfl
          · have := s1 x hx; omega
          · simp
        · simp only [Array.toList_push, List.map_append, List.map_cons, List.map_nil]
          refine List.nodup_append.2 ⟨s2, by simp, fun a ha c hc e1 => ?_⟩
          simp only [List.mem_singleton] at hc
          obtain ⟨x, hx, rfl⟩ := List.mem_map.1 ha
          have := s1 x hx
          omega
        · simp only [Array.toList_push, List.map_append, List.map_cons, List.map_nil]
          refine List.nodup_append.2 ⟨s3, by simp, fun a ha c hc e1 => ?_⟩
          simp only [List.mem_singleton] at hc
          obtain ⟨x, hx, rfl⟩ := List.mem_map.1 ha
          exact f2 x hx (e1.trans hc)
        · simp [h4]
        · intro x hx
          rcases List.mem_append.1 hx with hx | hx
          · exact h5 x hx
          · simp at hx; subst hx; exact hp
        · rw [List.map_append]
          refine List.nodup_append.2 ⟨h6, by simp, fun a ha c hc e1 => ?_⟩
          simp at hc
          obtain ⟨x, hx, rfl⟩ := List.mem_map.1 ha
          exact hnew x hx (e1.trans hc)
        · intro j e x he hx
          rw [Array.toList_push] at he
          by_cases hj : j < es.toList.length
          · rw [List.getElem?_append_left hj] at he
            rw [List.getElem?_append_left (by omega)] at hx
            exact keep _ _ (h7 j e x he hx)
          · rw [List.getElem?_append_right (by omega)] at he
            rw [List.getElem?_append_right (by omega)] at hx
            have hj0 : j - es.toList.length = 0 := by
              have := (List.getElem?_eq_some_iff.1 he).1
              simp at this; omega
            rw [hj0] at he
            rw [show j - L.length = 0 by omega] at hx
            simp at he hx
            subst he hx
            exact ownsInts_kept hv' (grownBy_setBlock _ _ _) (.inr hnb)
        · have old : ∀ (q : Nat) (e : MapEntry), (es.push ⟨keyV p, v', clock⟩).toList[q]? = some e → (q < es.toList.length ∧ es.toList[q]? = some e) ∨ (q = es.toList.length ∧ e = ⟨keyV p, v', clock⟩) := by
            intro q e he
            rw [Array.toList_push] at he
            by_cases hj : q < es.toList.length
            · rw [List.getElem?_append_left hj] at he
              exact .inl ⟨hj, he⟩
            · rw [List.getElem?_append_right (by omega)] at he
              have hj0 : q - es.toList.length = 0 := by
                have := (List.getElem?_eq_some_iff.1 he).1
                simp at this; omega
              rw [hj0] at he
              exact .inr ⟨by omega, by simpa using he.symm⟩
          have lo : ∀ (q : Nat) (e : MapEntry) (g : Nat), es.toList[q]? = some e → e.val.ownBlock = some g → g < w.heap.size := by
            intro q e g he hg
            obtain ⟨hql, _⟩ := List.getElem?_eq_some_iff.1 he
            have hx : L[q]? = some L[q] := List.getElem?_eq_getElem (by omega)
            exact ((h7 q e _ he hx).1.lt g hg).2
          have nw : v'.ownBlock = none ∨ v'.ownBlock = some w.heap.size := by
            rcases hloc with h | h
            · exact .inl (by rw [h]; rfl)
            · exact .inr (by rw [h, size_setBlock])
          intro i j ei ej hi hj hij
          rcases old i ei hi with ⟨hi1, hi2⟩ | ⟨hi1, rfl⟩ <;> rcases old j ej hj with ⟨hj1, hj2⟩ | ⟨hj1, rfl⟩
          · exact h8 i j ei ej hi2 hj2 hij
          · cases hb0 : ei.val.ownBlock with
            | none => exact .inl rfl
            | some g =>
              have hgl := lo i ei g hi2 hb0
              rcases nw with h | h
              · exact .inr (by simp [h])
              · exact .inr (fun e => by simp [h] at e; omega)
          · rcases nw with h | h
            · exact .inl h
            · refine .inr (fun e => ?_)
              have := lo j ej w.heap.size hj2 (by rw [← e]; exact h)
              omega
          · exact absurd (hi1.trans hj1.symm) hij
  · have hj : es[j]? = some e0 := by simpa using f2
    have hlen : es.toList.length = L.length := by
      have := congrArg List.length h4
      simpa using this
    obtain ⟨hjl, _⟩ := List.getElem?_eq_some_iff.1 f2
    have hx0 : L[j]? = some L[j] := List.getElem?_eq_getElem (by omega)
    have hkp : (L[j]'(by omega)).1 = p := by
      have h1 : (es.toList.map (·.key))[j]? = some e0.key := by rw [List.getElem?_map, f2]; rfl
      rw [h4, List.getElem?_map, hx0] at h1
      have h2 : keyV (L[j]'(by omega)).1 = e0.key := by simpa using h1
      exact keyV_inj (h2.trans f3)
    obtain ⟨zs, hzs⟩ : ∃ zs, (L[j]'(by omega)).2 = zs := ⟨_, rfl⟩
    have hx1 : L[j]? = some (p, zs) := by rw [hx0, ← hkp, ← hzs]
    obtain ⟨a1, a2⟩ := addTo_old i j zs h6 hx1
    have hown := h7 j e0 _ f2 hx1
    have hsame : es.modify j (fun e => { e with key := keyV p }) = es := by
      apply Array.ext'
      rw [Array.toList_modify, modify_eq_set _ _ _ _ f2]
      have : ({ e0 with key := keyV p } : MapEntry) = e0 := by rw [← f3]
      rw [this]
      exact set_self _ _ _ f2
    have hne : e0.val.ownBlock ≠ some b := by
      intro e
      have := (hown.1.lt b e).1
      omega
    refine ⟨e0.val, e0.born, setBlock w b (.map es clock), ?_, grownBy_setBlock _ _ _, size_setBlock _ _ _, ?_, ?_⟩
    · simp [Instr.mapEntry, run_underlying ht, MapKept.run_getObj_map hb, law35.check w false hkey, f1, hj, f3, law35.stays w hkey, hsame, MapKept.run_setObj_map _ hb, Result.andThen, setBlock]
    · rw [a2]
      exact ownsInts_kept hown (grownBy_setBlock _ _ _) (.inr hne)
    · intro w1 v' hg1 hv' hloc
      have hb1 : w1.heap[b]? = some (.map es clock) := (hg1.block b (by rw [size_setBlock]; exact hlt) (fun e => hne e.symm)).trans (heap_setBlock _ _ _ hlt)
      have hidx : es.findIdx? (fun e => ((e.born : Nat) : Int) == ((e0.born : Nat) : Int)) = some j := by
        rw [findIdx_arr]
        exact findIdx_born s2 f2
      refine ⟨setBlock w1 b (.map (es.modify j (fun e => { e with val := v' })) clock), ?_, grownBy_setBlock _ _ _, size_setBlock _ _ _, ?_⟩
      · simp [Instr.entryStore, MapKept.run_getObj_map hb1, asInt, asIntOf, goInt, hidx, MapKept.run_setObj_map _ hb1, Result.andThen, setBlock]
      · have hlt1 : b < w1.heap.size := (Array.getElem?_eq_some_iff.1 hb1).1
        have hes : (es.modify j (fun e => { e with val := v' })).toList = es.toList.set j { e0 with val := v' } := by
          rw [Array.toList_modify, modify_eq_set _ _ _ _ f2]
        have hnb : v'.ownBlock ≠ some b := by
          intro e
          have := (hv'.1.lt b e).1
          omega
        rw [a1]
        rw [a2] at hv'
        have hmk : ∀ {α : Type} (f : MapEntry → α), f { e0 with val := v' } = f e0 → (es.toList.set j { e0 with val := v' }).map f = es.toList.map f := by
          intro α f hf
          rw [List.map_set, hf]
          exact set_self _ _ _ (by rw [List.getElem?_map, f2]; rfl)
        refine ⟨es.modify j (fun e => { e with val := v' }), clock, heap_setBlock _ _ _ hlt1, ⟨?_, ?_, ?_⟩, hbB, ?_, ?_, ?_, ?_, ?_⟩
        · intro x hx
          rw [hes] at hx
          rcases List.mem_or_eq_of_mem_set hx with hx | rfl
          · exact s1 x hx
          · exact s1 e0 (List.mem_of_getElem? f2)
        · rw [hes, hmk (·.born) rfl]; exact s2
        · rw [hes, hmk (·.key) rfl]; exact s3
        · rw [hes, hmk (·.key) rfl, h4, List.map_set]
          exact (set_self _ _ _ (by rw [List.getElem?_map, hx1]; rfl)).symm
        · intro x hx
          rcases List.mem_or_eq_of_mem_set hx with hx | rfl
          · exact h5 x hx
          · exact hp
        · rw [List.map_set, set_self _ _ _ (by rw [List.getElem?_map, hx1]; rfl)]
          exact h6
        · intro q e x he hx
          rw [hes] at he
          by_cases hq : j = q
          · subst hq
            rw [List.getElem?_set_self (by omega)] at he
            rw [List.getElem?_set_self (by omega)] at hx
            simp at he hx
            subst he hx
            exact ownsInts_kept hv' (grownBy_setBlock _ _ _) (.inr hnb)
          · rw [List.getElem?_set_ne hq] at he
            rw [List.getElem?_set_ne hq] at hx
            have hv := h7 q e x he hx
            have hne2 : e.val.ownBlock = none ∨ e.val.ownBlock ≠ some b := by
              cases hvb : e.val.ownBlock with
              | none => exact .inl rfl
              | some g =>
                have := (hv.1.lt g hvb).1
                exact .inr (fun e => by cases e; omega)
            exact ownsInts_kept (ownsInts_kept (ownsInts_kept hv (grownBy_setBlock _ _ _) hne2) hg1 (h8 q j e e0 he f2 (fun e => hq e.symm))) (grownBy_setBlock _ _ _) hne2
        · have lo : ∀ (q : Nat) (e : MapEntry) (g : Nat), es.toList[q]? = some e → e.val.ownBlock = some g → g < w.heap.size := by
            intro q e g he hg
            obtain ⟨hql, _⟩ := List.getElem?_eq_some_iff.1 he
            have hx : L[q]? = some (L[q]'(by omega)) := List.getElem?_eq_getElem (by omega)
            exact ((h7 q e _ he hx).1.lt g hg).2
          have nw : v'.ownBlock = e0.val.ownBlock ∨ v'.ownBlock = some w.heap.size := by
            rcases hloc with h | h
            · exact .inl h
            · exact .inr (by rw [h, size_setBlock])
          have at_ : ∀ (q : Nat) (e : MapEntry), (es.toList.set j { e0 with val := v' })[q]? = some e → (q = j ∧ e = { e0 with val := v' }) ∨ (q ≠ j ∧ es.toList[q]? = some e) := by
            intro q e he
            by_cases hq : j = q
            · subst hq
              rw [List.getElem?_set_self (by omega)] at he
              exact .inl ⟨rfl, (Option.some.inj he).symm⟩
            · rw [List.getElem?_set_ne hq] at he
              exact .inr ⟨fun e => hq e.symm, he⟩
          intro i1 j1 ei ej hi hj1 hij
          rw [hes] at hi hj1
          rcases at_ i1 ei hi with ⟨rfl, rfl⟩ | ⟨hi1, hi2⟩ <;> rcases at_ j1 ej hj1 with ⟨rfl, rfl⟩ | ⟨hj2, hj3⟩
          · exact absurd rfl hij
          · show v'.ownBlock = none ∨ v'.ownBlock ≠ ej.val.ownBlock
            rcases nw with h | h
            · rw [h]; exact h8 _ _ e0 ej f2 hj3 hij
            · refine .inr (fun e => ?_)
              have := lo j1 ej w.heap.size hj3 (by rw [← e]; exact h)
              omega
          · show ei.val.ownBlock = none ∨ ei.val.ownBlock ≠ v'.ownBlock
            rcases nw with h | h
            · rw [h]; exact h8 _ _ ei e0 hi2 f2 hij
            · cases hb0 : ei.val.ownBlock with
              | none => exact .inl rfl
              | some g =>
                have := lo i1 ei g hi2 hb0
                exact .inr (by rw [h]; intro e; cases e; omega)
          · exact h8 _ _ ei ej hi2 hj3 hij
noncomputable def R0 : Value → Option (DataW Unit × List MemPlace) := fun _ => some (.nil, [])
noncomputable def Dof (es : Array MapEntry) : DataW Unit := .map ((es.toList.map (WideElems.rg Tryz.prog 35 R0)).foldr DataW.insert [])
theorem rd35 {e : MapEntry} {x : S35} (he : e.key = keyV x) (hx : OkKey x) : WideElems.rd Tryz.prog 35 R0 e = some (keyL x, .nil) := by
  unfold WideElems.rd
  simp [he, keyOf35 x hx, R0]
theorem rg35 {e : MapEntry} {x : S35} (he : e.key = keyV x) (hx : OkKey x) : WideElems.rg Tryz.prog 35 R0 e = (keyL x, .nil) := by
  unfold WideElems.rg
  rw [rd35 he hx]
  rfl
theorem GM.map {w : World} {B b : Nat} {L : List (S35 × List Int)} (h : GM w B b L) (hl : L.length ≤ 1000000) : ∃ es, w.ownsMap Tryz.prog 35 R0 b L.length (Dof es) ∧ Maps.size (Dof es) = L.length ∧ ∀ kl, Maps.has (Dof es) kl = true ↔ ∃ x ∈ L, keyL x.1 = kl := by
  obtain ⟨es, clock, hb, hst, hbB, h4, h5, h6, h7, h8⟩ := h
  have hlen : es.toList.length = L.length := by
    have := congrArg List.length h4
    simpa using this
  have hsz : es.size = L.length := by rw [← hlen]; simp
  have hin : ∀ e ∈ es.toList, ∃ x ∈ L, e.key = keyV x.1 := by
    intro e he
    have : e.key ∈ es.toList.map (·.key) := List.mem_map.2 ⟨e, he, rfl⟩
    rw [h4] at this
    obtain ⟨x, hx, e1⟩ := List.mem_map.1 this
    exact ⟨x, hx, e1.symm⟩
  have hout : ∀ x ∈ L, ∃ e ∈ es.toList, e.key = keyV x.1 := by
    intro x hx
    have : keyV x.1 ∈ es.toList.map (·.key) := by rw [h4]; exact List.mem_map.2 ⟨x, hx, rfl⟩
    obtain ⟨e, he, e1⟩ := List.mem_map.1 this
    exact ⟨e, he, e1⟩
  have F : Fit Tryz.prog 35 R0 es clock := ⟨by rw [hsz]; unfold maxLen; omega, hst, fun e he => by
    obtain ⟨x, hx, e1⟩ := hin e he
    exact ⟨_, rd35 e1 (h5 x hx)⟩⟩
  refine ⟨es, ⟨es, clock, hb, F, by omega, rfl⟩, ?_, ?_⟩
  · show ((es.toList.map (WideElems.rg Tryz.prog 35 R0)).foldr DataW.insert []).length = _
    rw [(WideShapes.sorted_perm _).length_eq, List.length_map, hlen]
  · intro kl
    show List.any _ _ = true ↔ _
    rw [List.any_eq_true]
    constructor
    · rintro ⟨q, hq, hs⟩
      obtain ⟨e, he, rfl⟩ := List.mem_map.1 (mem_sorted.1 hq)
      obtain ⟨x, hx, e1⟩ := hin e he
      rw [rg35 e1 (h5 x hx)] at hs
      exact ⟨x, hx, WideAt.sameKey_eq hs⟩
    · rintro ⟨x, hx, rfl⟩
      obtain ⟨e, he, e1⟩ := hout x hx
      refine ⟨WideElems.rg Tryz.prog 35 R0 e, mem_sorted.2 (List.mem_map.2 ⟨e, he, rfl⟩), ?_⟩
      rw [rg35 e1 (h5 x hx)]
      exact WideAt.sameKey_self trivial
structure Met (ks : List S35) (left : Lit → Bool) (ss : List S35) : Prop where
  nd : ss.Nodup
  sub : ∀ x ∈ ss, x ∈ ks
  left : ∀ x ∈ ks, (left (keyL x) = false ↔ x ∈ ss)
theorem Met.step {ks : List S35} (hok : ∀ x ∈ ks, OkKey x) {left : Lit → Bool} {ss : List S35} (h : Met ks left ss) {x : S35} (hx : x ∈ ks) (hl : left (keyL x) = true) : Met ks (fun z => left z && !z.sameKey (keyL x)) (ss ++ [x]) := by
  have hn : x ∉ ss := fun e => by rw [(h.left x hx).2 e] at hl; cases hl
  refine ⟨List.nodup_append.2 ⟨h.nd, by simp, fun a ha c hc e => ?_⟩, ?_, ?_⟩
  · simp at hc
    subst hc
    exact hn (e ▸ ha)
  · intro y hy
    rcases List.mem_append.1 hy with hy | hy
    · exact h.sub y hy
    · simp at hy; subst hy; exact hx
  · intro y hy
    by_cases hyx : y = x
    · subst hyx
      simp [WideAt.sameKey_self (a := keyL y) trivial]
    · have h1 : (keyL y).sameKey (keyL x) = false := by
        cases hs : (keyL y).sameKey (keyL x) with
        | false => rfl
        | true => exact absurd (keyL_inj (hok y hy) (hok x hx) (WideAt.sameKey_eq hs)) hyx
      simp [h1, hyx, h.left y hy]
theorem Met.perm {ks : List S35} (hnd : ks.Nodup) {left : Lit → Bool} {ss : List S35} (h : Met ks left ss) (hl : ∀ kl, left kl = false) : ss.Perm ks :=
  (List.perm_ext_iff_of_nodup h.nd hnd).2 fun x => ⟨fun hx => h.sub x hx, fun hx => (h.left x hx).1 (hl _)⟩
set_option maxRecDepth 100000 in
set_option maxHeartbeats 2000000 in
theorem keys1_in (F : Fence) (n : Nat) (h119 : F.fn 119) (hro : F.round = none) (hn : 1 ≤ n) (l Bm b nn : Nat) (D0 : DataW Unit) (ks : List S35) (hok : ∀ x ∈ ks, OkKey x) (hnd : ks.Nodup) (hks : ∀ kl, Maps.has D0 kl = true ↔ ∃ x ∈ ks, keyL x = kl) (J Jx : List S35 → World → Prop)
    (hY : ∀ pre x W, J pre W → pre.length < Maps.size D0 → YieldAt F (n - 1) Tryz.prog l #[keyV x] W fun e W' => (e = .returned (.bool true) ∧ J (pre ++ [x]) W' ∧ KeepsWalks W W') ∨ (e = .returned (.bool false) ∧ Jx (pre ++ [x]) W'))
    (W : World) (hJ : AbidesFrom W.heap.size J) (hm : W.cell? ⟨Bm, 0, none⟩ = some (.map (some b))) (hown : W.ownsMap Tryz.prog 35 R0 b nn D0) (h0 : J [] W) :
    CallsIn F n Tryz.prog 119 #[.func (.yield l) #[] #[], .pointer (some ⟨Bm, 0, none⟩)] W fun e W' => (∃ v, e = .returned v) ∧ ((∃ ss, ss.Perm ks ∧ J ss W') ∨ (∃ pre, True ∧ Jx pre W')) := by
  have hu35 := Tryz.underlying35
  refine callsIn_of_wp Tryz.func119 rfl h119 ?_ hro
  simp only [Tryz.ntmps119, List.size_toArray, List.length_cons, List.length_nil, Nat.reduceAdd, Nat.reduceSub, Array.replicate_succ, Array.replicate_zero, List.push_toArray, List.append_toArray, List.nil_append, List.cons_append]
  gi_wp2_with (first
    | (gi_at_range; refine wpListIn_range_own _ rfl _ 128 rfl 35 75 law35 Tryz.underlying128 _ b nn _ rfl hown ?_; intro w0 hrg0 hg0 hs0)
    | gi_in)
  go_frame
  gi_loopw [3] (fun _ wr => ∃ (left : Lit → Bool) (cnt : Nat) (ss : List S35), wr.ranges Tryz.prog 35 R0 b W.heap.size nn D0 left cnt ∧ ss.length + cnt ≤ Maps.size D0 ∧ Met ks left ss ∧ J ss wr) (fun _ wr => wr.rangeLeft b W.heap.size)
  case atStart =>
    refine ⟨_, _, [], hrg0, by simp, ⟨by simp, by simp, fun x hx => ?_⟩, hJ [] W w0 none h0 hg0 (fun r e => by cases e)⟩
    simp [(hks (keyL x)).2 ⟨x, hx, rfl⟩]
  case round =>
    obtain ⟨left, cnt, ss, hrg, hcs, hC, hJs⟩ := hrel
    gi_wp2_with (first
      | (gi_at_next; refine wpListIn_next_ranges _ rfl _ rfl 35 law35 R0 id id (fun key kl hk => ⟨key, rfl⟩) (fun v _ _ => ⟨v, rfl⟩) b W.heap.size nn _ _ _ rfl hrg ?_ ?_)
      | gi_in)
    · intro hc0 hl0
      gi_wp2
      go_end0
      exact ⟨⟨_, rfl⟩, .inl ⟨ss, hC.perm hnd hl0, hJs⟩⟩
    · intro x c kl yd yp w2 cnt2 hkey hlk hv hat hrg2 hlt hg2 hs2 hen
      obtain ⟨x0, hx0, hxl⟩ := (hks kl).1 (has_true_of_atKey hat)
      subst hxl
      obtain rfl : x = keyV x0 := law35.inj hkey (keyOf35 x0 (hok x0 hx0))
      have hJ2 : J ss w2 := hJ ss wr w2 (some W.heap.size) hJs hg2 (fun r e => by cases e; exact ⟨Nat.le_refl _, hrg.iter_walk⟩)
      obtain ⟨fn, tmps, assign, body, hy, hR⟩ := hY ss x0 (w2.alloc (.cells #[.int .i64 x0.f0, .int .i64 x0.f1, .string x0.f2] 35)) (hJ ss w2 _ none hJ2 (World.grownBy_alloc _ _ _) (fun r e => by cases e)) (by omega)
      simp only [keyV] at hy
      simp only [keyV, id] at hen ⊢
      clear hs2
      have hC2 := hC.step hok hx0 hlk
      gi_wp2
      refine hR.mono ?_
      rintro e W3 (⟨rfl, hJ3, hk3⟩ | ⟨rfl, hJx3⟩)
      · have hrg3 := (hrg2.of_walks (KeepsWalks.alloc w2 (.cells #[.int .i64 x0.f0, .int .i64 x0.f1, .string x0.f2] 35))).of_walks hk3
        gi_wp2
        go_roundw
        case rel => exact ⟨_, cnt2, ss ++ [x0], hrg3, by simp; omega, hC2, hJ3⟩
        case measure => rw [hrg3.left_eq, hrg.left_eq]; exact hlt
      · gi_wp2
        refine bodyPost_ret (results_none rfl _ _ _) rfl ?_
        exact ⟨⟨_, rfl⟩, .inr ⟨_, trivial, hJx3⟩⟩
theorem keys_stops (F : Fence) (n : Nat) (h119 : F.fn 119) (hro : F.round = none) (hn : 1 ≤ n) (Bm b nn : Nat) (D0 : DataW Unit) (ks : List S35) (hok : ∀ x ∈ ks, OkKey x) (hnd : ks.Nodup) (hks : ∀ kl, Maps.has D0 kl = true ↔ ∃ x ∈ ks, keyL x = kl) (w : World) (hBm : Bm < w.heap.size)
    (hm : w.cell? ⟨Bm, 0, none⟩ = some (.map (some b))) (hown : w.ownsMap Tryz.prog 35 R0 b nn D0) :
    SeqStopsK F n Tryz.prog 119 #[.pointer (some ⟨Bm, 0, none⟩)] (fun x => #[keyV x]) KeepsWalks (fun ss => ss.Perm ks) (fun _ => True) (Maps.size D0) w := fun l J Jx W hW hJ _ hY h0 => by
  have hown' : W.ownsMap Tryz.prog 35 R0 b nn D0 := by
    have hbl := hown.lt
    obtain ⟨es, clock, hb, Ft, hs, hD⟩ := hown
    exact ⟨es, clock, (hW.block b hbl).trans hb, Ft, hs, hD⟩
  exact keys1_in F n h119 hro hn l Bm b nn D0 ks hok hnd hks J Jx hY W hJ ((hW.cell (p := ⟨Bm, 0, none⟩) hBm).trans hm) hown' h0
attribute [local go_sem] Oper.semAt_some
def c35 (x : S35) : List Value := [.int .i64 x.f0, .int .i64 x.f1, .string x.f2]
theorem info35g : (Tryz.prog.info? 35).map (fun i => (i.zero, i.size, i.bytes)) = some (some (.agg #[.int .i64 0, .int .i64 0, .string ⟨#[]⟩]), 3, 32) := by kernel_rfl
set_option maxRecDepth 100000 in
set_option maxHeartbeats 4000000 in
theorem appendSeq_keys (Bm b nn : Nat) (D0 : DataW Unit) (ks : List S35) (hok : ∀ x ∈ ks, OkKey x) (hnd : ks.Nodup) (hlen : ks.length ≤ 1000000) (hsz : Maps.size D0 = ks.length) (hks : ∀ kl, Maps.has D0 kl = true ↔ ∃ x ∈ ks, keyL x = kl) (w : World) (hBm : Bm < w.heap.size)
    (hm : w.cell? ⟨Bm, 0, none⟩ = some (.map (some b))) (hown : w.ownsMap Tryz.prog 35 R0 b nn D0) :
    Calls Tryz.prog 152 #[.slice none 0 0, .func (.func 119) #[] #[.pointer (some ⟨Bm, 0, none⟩)]] w fun e w' => ∃ v ss, e = .returned v ∧ ss.Perm ks ∧ w'.ownsRow w.heap.size 35 3 v ss.length (ss.flatMap c35) ∧ (v = .slice none 0 0 ↔ ss = []) ∧ Below w.heap.size w w' := by
  have hu35 := Tryz.underlying35
  have hu28 := Tryz.underlying28
  obtain ⟨i0, hi, hz0, hz1, hz2⟩ := info_parts info35g
  refine (callsIn_wide (n := 7)).1 ?_
  refine callsIn_of_wp_marks Tryz.func152 rfl trivial ?_ rfl
  simp only [Tryz.ntmps152, List.size_toArray, List.length_cons, List.length_nil, Nat.reduceAdd, Nat.reduceSub, Array.replicate_succ, Array.replicate_zero, List.push_toArray, List.append_toArray, List.nil_append, List.cons_append]
  gi_wp2
  have hseq := keys_stops Fence.wide 6 trivial rfl (by omega) Bm b nn D0 ks hok hnd hks (w.alloc (.cells #[.slice none 0 0] 28)) (by simp; omega) (cell_kept hm (World.grownBy_alloc w _ none) (fun r e => by cases e)) (by
    have hbl := hown.lt
    obtain ⟨es, clock, hb, Ft, hs, hD⟩ := hown
    exact ⟨es, clock, (Below.heap_alloc w _ b hbl).trans hb, Ft, hs, hD⟩)
  refine wpIn_rangeFunc_ownH rfl (by omega) (gf := 119) (lb := #[.pointer (some ⟨Bm, 0, none⟩)]) rfl trivial (enters_of Tryz.func119 (by kernel_rfl) rfl) hseq walksK_t walksK_b (Below.refl _ _) (fun _ => rfl)
    (fun pre V => (∃ v, Boxed V w.heap.size 28 v ∧ V.ownsRow w.heap.size 35 3 v pre.length (pre.flatMap c35) ∧ (v = .slice none 0 0 ↔ pre = [])) ∧ Below w.heap.size w V) (fun _ _ _ => False)
    (OwnFrom.and (Own.from (holdsRow_own w.heap.size w.heap.size 28 35 3 (fun pre => pre.length) (fun pre => pre.flatMap c35) (fun pre v => v = .slice none 0 0 ↔ pre = [])) _) (ownFrom_below (Nat.le_refl _) (by simp)))
    (fun _ _ _ _ _ hs _ _ => hs) ⟨⟨_, Boxed.new _ _ _, World.ownsRow_nil _ _ _ _, by simp⟩, (Below.refl _ _).alloc (Nat.le_refl _) _⟩
    (fun x a' V => ∃ Bx, V.heap[Bx]? = some (.cells #[.int .i64 x.f0, .int .i64 x.f1, .string x.f2] 35 (0, 0)) ∧ a' = { tmps := #[.slice none 0 0, .func (.func 119) #[] #[.pointer (some ⟨Bm, 0, none⟩)], .pointer (some ⟨w.heap.size, 0, none⟩), undef, .slice none 0 0, .pointer (some ⟨Bx, 0, none⟩), .func (.func 119) #[] #[.pointer (some ⟨Bm, 0, none⟩)], keyV x, undef, undef, undef, undef, undef], defers := [] })
    ?hAx ?assign ?body ?done ?stop
  case hAx =>
    rintro x a' _ V V' row ⟨Bx, hbx, ha⟩ hg hr
    refine ⟨Bx, (hg.block Bx (Array.getElem?_eq_some_iff.1 hbx).1 (fun e => ?_)).trans hbx, ha⟩
    obtain ⟨_, o, ho, hc⟩ := hr Bx e.symm
    rw [hbx] at ho
    cases ho
    cases hc
  case assign =>
    rintro l pre x V K ⟨⟨v, hv, hrow, hn⟩, hB⟩ hK
    simp only [keyV] at hK ⊢
    gi_wp2
    refine hK _ _ ((KeepsOthers.alloc V _).from _) (KeepsWalks.alloc V _) ⟨⟨v, hv.alloc _, hrow.alloc _, hn⟩, hB.alloc hB.size _⟩ ⟨V.heap.size, World.alloc_heap_new V _, rfl⟩
  case body =>
    rintro l pre x a' V hl ⟨r, hr⟩ ⟨⟨v, hv, hrow, hn⟩, hB⟩ ⟨Bx, hbx, rfl⟩ hlt
    simp only [keyV]
    have hc := hv.cell
    have x0 : V.cell? ⟨Bx, 0, none⟩ = some (.int .i64 x.f0) := (blk_cell hbx 0).trans rfl
    have x1 : V.cell? ⟨Bx, 1, none⟩ = some (.int .i64 x.f1) := (blk_cell hbx 1).trans rfl
    have x2 : V.cell? ⟨Bx, 2, none⟩ = some (.string x.f2) := (blk_cell hbx 2).trans rfl
    have hpl : pre.length ≤ 1000000 := by omega
    gi_wp2_with (gi_at_builtin; refine wpListIn_append_own _ rfl _ _ 28 rfl w.heap.size 35 i0 (.agg #[.int .i64 0, .int .i64 0, .string ⟨#[]⟩]) 3 32 Tryz.underlying28 hi hz0 hz1 hz2 rfl (by decide) _ _ _ rfl (hrow.alloc _) ⟨V.heap.size, 0, none⟩ 1 1 (c35 x) rfl rfl (World.news_of_block (cs := #[.int .i64 x.f0, .int .i64 x.f1, .string x.f2]) (t := 35) (fr := (0, 0)) (heap_alloc_new V _)) (by simp [c35, Value.oneCell']) (by unfold maxLen; omega) (by omega) (by have := hB.size; simp; omega) ?_; intro v' w1 hown' hgrow _; obtain ⟨g', cap', rfl⟩ := ownsRow_succ hown'; obtain ⟨hv1, hv2, hr2, hk2, hb2⟩ := hv.appended (by decide) hrow hB.size (Nat.le_refl _) hown' hgrow; have hc1 := hv1.cell; have hf1 := hv1.frozen)
    exact ⟨hk2.from _, hk2.walks, ⟨_, hv2, by simpa using hr2, by simp⟩, hB.trans hb2⟩
  case done =>
    intro D ss V hD hS ⟨⟨v, hv, hrow, hn⟩, hB⟩ hK
    have hc := hv.cell
    gi_wp2
    refine ⟨by simp, .inl ⟨_, _, rfl, run_takeDeferred hK, ?_⟩⟩
    refine ⟨_, results_tmp rfl _ _ _, v, ss, rfl, hS, ?_, hn, ?_⟩
    · exact ownsRow_putObj hrow _ hK rfl
    · exact ⟨hB.os, hB.tape, hB.output, by simpa using hB.size, fun k hkl => (World.putObj_heap_other (by simp at hD; omega)).trans (hB.block k hkl)⟩
  case stop =>
    rintro D c pre V _ _ h _
    exact h.elim
theorem collect_keys (Bm b nn : Nat) (D0 : DataW Unit) (ks : List S35) (hok : ∀ x ∈ ks, OkKey x) (hnd : ks.Nodup) (hlen : ks.length ≤ 1000000) (hsz : Maps.size D0 = ks.length) (hks : ∀ kl, Maps.has D0 kl = true ↔ ∃ x ∈ ks, keyL x = kl) (w : World) (hBm : Bm < w.heap.size)
    (hm : w.cell? ⟨Bm, 0, none⟩ = some (.map (some b))) (hown : w.ownsMap Tryz.prog 35 R0 b nn D0) :
    Calls Tryz.prog 117 #[.func (.func 119) #[] #[.pointer (some ⟨Bm, 0, none⟩)]] w fun e w' => ∃ v ss, e = .returned v ∧ ss.Perm ks ∧ w'.ownsRow w.heap.size 35 3 v ss.length (ss.flatMap c35) ∧ (v = .slice none 0 0 ↔ ss = []) ∧ Below w.heap.size w w' := by
  have H := Lib.hid (appendSeq_keys Bm b nn D0 ks hok hnd hlen hsz hks w hBm hm hown)
  clear hok hnd hsz hks hm hown
  go_enter Tryz.func117, Tryz.ntmps117
  go_wp2_with fail
  refine H.out.mono ?_
  rintro e w1 ⟨v, ss, rfl, h1, h2, h3, h4⟩
  have H2 := Lib.hid h2
  clear h2
  go_wp2
  go_ret
  exact ⟨v, ss, rfl, h1, H2.out, h3, h4⟩
theorem isNaN_int (a : Int) : cmp_isNaN_int.f a = some false := by unfold cmp_isNaN_int.f; simp
theorem cmp_int (a b : Int) : cmp_Compare_int.f a b = some (if a < b then -1 else if b < a then 1 else 0) := by
  unfold cmp_Compare_int.f
  rw [isNaN_int, isNaN_int]
  simp only [Option.bind_some, if_neg (show ¬ (false = true) by decide), gt_iff_lt]
  repeat' split <;> simp_all
theorem first_int (a b c : Int) : value_first_int.f 10 [a, b, c] = some (if a = 0 then if b = 0 then c else b else a) := by
  have h0 : rd [a, b, c] 0 = a := rfl
  have h1 : rd [a, b, c] 1 = b := rfl
  have h2 : rd [a, b, c] 2 = c := rfl
  have w0 : wrap64 (0 + 1) = 1 := by unfold wrap64; omega
  have w1 : wrap64 (1 + 1) = 2 := by unfold wrap64; omega
  have w2 : wrap64 (2 + 1) = 3 := by unfold wrap64; omega
  unfold value_first_int.f
  simp only [List.length_cons, List.length_nil]
  rw [show ((0 + 1 + 1 + 1 : Nat) : Int) = 3 by rfl]
  unfold value_first_int.l0
  simp only [h0, List.length_cons, List.length_nil]
  by_cases ha : a = 0
  · subst ha
    simp only [if_true, w0]
    unfold value_first_int.l0
    simp only [h1, List.length_cons, List.length_nil]
    by_cases hb : b = 0
    · subst hb
      simp only [if_true, w1]
      unfold value_first_int.l0
      simp only [h2, List.length_cons, List.length_nil]
      by_cases hc : c = 0
      · subst hc
        simp only [if_true, w2]
        unfold value_first_int.l0
        simp
      · simp [hc]
    · simp [hb]
  · simp [ha]
def vcmp (x y : S35) : Int := (value_Cmp.f 10 x.f0 x.f1 x.f2 y.f0 y.f1 y.f2).getD 0
def cmpI (a b : Int) : Int := if a < b then -1 else if b < a then 1 else 0
def cmpS (a b : ByteArray) : Int := if Op.bytesLess a.toList b.toList then -1 else if a.toList == b.toList then 0 else 1
theorem vcmp_f (x y : S35) : value_Cmp.f 10 x.f0 x.f1 x.f2 y.f0 y.f1 y.f2 = some (if cmpI x.f0 y.f0 = 0 then if cmpI x.f1 y.f1 = 0 then cmpS x.f2 y.f2 else cmpI x.f1 y.f1 else cmpI x.f0 y.f0) := by
  unfold value_Cmp.f
  rw [cmp_int, cmp_int]
  simp only [Option.bind_some, cmp_Compare_string.f, first_int]
  rfl
theorem vcmp_some (x y : S35) : value_Cmp.f 10 x.f0 x.f1 x.f2 y.f0 y.f1 y.f2 = some (vcmp x y) := by
  unfold vcmp
  rw [vcmp_f]
  rfl
theorem vcmp_eq (x y : S35) : vcmp x y = if cmpI x.f0 y.f0 = 0 then if cmpI x.f1 y.f1 = 0 then cmpS x.f2 y.f2 else cmpI x.f1 y.f1 else cmpI x.f0 y.f0 := by
  have := vcmp_some x y
  rw [vcmp_f] at this
  exact (Option.some.inj this).symm
def vlt (x y : S35) : Prop := x.f0 < y.f0 ∨ (x.f0 = y.f0 ∧ (x.f1 < y.f1 ∨ (x.f1 = y.f1 ∧ x.f2.toList < y.f2.toList)))
theorem cmpI_zero {a b : Int} : cmpI a b = 0 ↔ a = b := by
  unfold cmpI
  split
  · omega
  · split <;> omega
theorem cmpI_neg {a b : Int} : cmpI a b < 0 ↔ a < b := by
  unfold cmpI
  split
  · omega
  · split <;> omega
theorem cmpS_neg {a b : ByteArray} : cmpS a b < 0 ↔ a.toList < b.toList := by
  unfold cmpS
  rw [bytesLess_eq]
  by_cases h : a.toList < b.toList
  · simp [h]
  · simp only [h, decide_false, Bool.false_eq_true, if_false, iff_false]
    split <;> omega
theorem vcmp_neg (x y : S35) : vcmp x y < 0 ↔ vlt x y := by
  rw [vcmp_eq]
  unfold vlt
  by_cases h0 : x.f0 = y.f0
  · rw [if_pos (cmpI_zero.2 h0)]
    by_cases h1 : x.f1 = y.f1
    · rw [if_pos (cmpI_zero.2 h1), cmpS_neg]
      simp [h0, h1]
    · rw [if_neg (fun e => h1 (cmpI_zero.1 e)), cmpI_neg]
      simp [h0, h1]
  · rw [if_neg (fun e => h0 (cmpI_zero.1 e)), cmpI_neg]
    simp [h0]
theorem vlt_irrefl (x : S35) : ¬ vlt x x := by
  unfold vlt
  have := List.lt_irrefl x.f2.toList
  rintro (h | ⟨_, h | ⟨_, h⟩⟩)
  · omega
  · omega
  · exact this h
theorem vlt_trans {x y z : S35} (h : vlt x y) (k : vlt y z) : vlt x z := by
  unfold vlt at *
  rcases h with h | ⟨h0, h | ⟨h1, h⟩⟩ <;> rcases k with k | ⟨k0, k | ⟨k1, k⟩⟩
  · exact .inl (by omega)
  · exact .inl (by omega)
  · exact .inl (by omega)
  · exact .inl (by omega)
  · exact .inr ⟨by omega, .inl (by omega)⟩
  · exact .inr ⟨by omega, .inl (by omega)⟩
  · exact .inl (by omega)
  · exact .inr ⟨by omega, .inl (by omega)⟩
  · exact .inr ⟨by omega, .inr ⟨by omega, List.lt_trans h k⟩⟩
theorem vlt_total (x y : S35) : vlt x y ∨ x = y ∨ vlt y x := by
  unfold vlt
  by_cases h0 : x.f0 < y.f0
  · exact .inl (.inl h0)
  by_cases h0' : y.f0 < x.f0
  · exact .inr (.inr (.inl h0'))
  by_cases h1 : x.f1 < y.f1
  · exact .inl (.inr ⟨by omega, .inl h1⟩)
  by_cases h1' : y.f1 < x.f1
  · exact .inr (.inr (.inr ⟨by omega, .inl h1'⟩))
  by_cases h2 : x.f2.toList < y.f2.toList
  · exact .inl (.inr ⟨by omega, .inr ⟨by omega, h2⟩⟩)
  by_cases h2' : y.f2.toList < x.f2.toList
  · exact .inr (.inr (.inr ⟨by omega, .inr ⟨by omega, h2'⟩⟩))
  · refine .inr (.inl ?_)
    have h3 : x.f2.toList = y.f2.toList := List.le_antisymm (List.not_lt.1 h2') (List.not_lt.1 h2)
    have e0 : x.f0 = y.f0 := by omega
    have e1 : x.f1 = y.f1 := by omega
    cases x; cases y
    simp only at e0 e1 h3
    subst e0 e1
    rw [bytes_ext h3]
open Go.Sort in
theorem swoV : SWO (ltOf vcmp) where
  irrefl x := by simp only [ltOf, decide_eq_false_iff_not, vcmp_neg]; exact vlt_irrefl x
  trans x y z h k := by
    simp only [ltOf, decide_eq_true_eq, vcmp_neg] at *
    exact vlt_trans h k
  ntrans x y z h k := by
    simp only [ltOf, decide_eq_false_iff_not, vcmp_neg] at *
    intro hxz
    rcases vlt_total x y with h1 | rfl | h1
    · exact h h1
    · exact k hxz
    · exact k (vlt_trans h1 hxz)
open Go.Sort Go.Shelf
def Gr (w w' : World) : Prop := ∃ q os, w' = grow (w.drewN q) os
theorem Gr.refl (w : World) : Gr w w := ⟨0, #[], by cases w; simp [grow, World.drewN]⟩
theorem Gr.alloc {w w' : World} (h : Gr w w') (o : Obj) : Gr w (w'.alloc o) := by
  obtain ⟨q, os, rfl⟩ := h
  exact ⟨q, _, by rw [alloc_eq_grow, grow_grow]⟩
theorem Gr.drewN {w w' : World} (h : Gr w w') (n : Nat) : Gr w (w'.drewN n) := by
  obtain ⟨q, os, rfl⟩ := h
  exact ⟨q + n, os, by simp [grow, World.drewN, Nat.add_assoc]⟩
theorem Gr.drew {w w' : World} (h : Gr w w') : Gr w w'.drew := h.drewN 1
instance inhS35 : Inhabited S35 := ⟨z35⟩
theorem C3 (W : World) (t : TypeId) (a b c : Int) : Kd.C (Kd.int .i64) (W.alloc (.cells #[.int .i64 a, .int .i64 b, .int .i64 c] t)) (some ⟨W.heap.size, 0, none⟩) ([a, b, c] : List Int).length [a, b, c] := by
  refine ⟨rfl, by simp, fun _ => ⟨_, rfl, fun j p hp => ⟨[.int .i64 p], rfl, rfl, fun i u hu => ?_⟩⟩⟩
  match i, hu with
  | 0, hu =>
    obtain rfl := Option.some.inj hu
    match j, hp with
    | 0, hp => obtain rfl := Option.some.inj hp; simp [Addr.add, go_sem, Kd.int, Kd.scalar]
    | 1, hp => obtain rfl := Option.some.inj hp; simp [Addr.add, go_sem, Kd.int, Kd.scalar]
    | 2, hp => obtain rfl := Option.some.inj hp; simp [Addr.add, go_sem, Kd.int, Kd.scalar]
theorem cmp_int' (a b : Int) : cmp_Compare_int.f a b = some (cmpI a b) := cmp_int a b
theorem cmp_str' (a b : ByteArray) : cmp_Compare_string.f a b = some (cmpS a b) := rfl
set_option maxRecDepth 100000 in
set_option maxHeartbeats 4000000 in
theorem value_Cmp.grows (x y : S35) (w : World) : Calls Tryz.prog 70 #[.agg #[.int .i64 x.f0, .int .i64 x.f1, .string x.f2], .agg #[.int .i64 y.f0, .int .i64 y.f1, .string y.f2]] w fun e w' => e = .returned (.int .i64 (vcmp x y)) ∧ Gr w w' := by
  have hu35 := Tryz.underlying35
  have hv := vcmp_eq x y
  have hf := first_int (cmpI x.f0 y.f0) (cmpI x.f1 y.f1) (cmpS x.f2 y.f2)
  rw [← hv] at hf
  have HF := Lib.hid hf
  clear hf hv
  generalize vcmp x y = r at *
  go_enter Tryz.func70, Tryz.ntmps70
  go_wp2_with fail
  have B0 := blk_alloc (heap_alloc_new w (.cells #[.int .i64 x.f0, .int .i64 x.f1, .string x.f2] 35)) (.cells #[.int .i64 y.f0, .int .i64 y.f1, .string y.f2] 35)
  have B1 := heap_alloc_new (w.alloc (.cells #[.int .i64 x.f0, .int .i64 x.f1, .string x.f2] 35)) (.cells #[.int .i64 y.f0, .int .i64 y.f1, .string y.f2] 35)
  have hG := ((Gr.refl w).alloc (.cells #[.int .i64 x.f0, .int .i64 x.f1, .string x.f2] 35)).alloc (.cells #[.int .i64 y.f0, .int .i64 y.f1, .string y.f2] 35)
  simp only [World.size_alloc] at B1
  generalize (w.alloc (.cells #[.int .i64 x.f0, .int .i64 x.f1, .string x.f2] 35)).alloc (.cells #[.int .i64 y.f0, .int .i64 y.f1, .string y.f2] 35) = W at *
  have k0 : W.cell? ⟨w.heap.size, 0, none⟩ = some (.int .i64 x.f0) := (blk_cell B0 0).trans rfl
  have k1 : W.cell? ⟨w.heap.size, 1, none⟩ = some (.int .i64 x.f1) := (blk_cell B0 1).trans rfl
  have k2 : W.cell? ⟨w.heap.size, 2, none⟩ = some (.string x.f2) := (blk_cell B0 2).trans rfl
  have m0 : W.cell? ⟨w.heap.size + 1, 0, none⟩ = some (.int .i64 y.f0) := (blk_cell B1 0).trans rfl
  have m1 : W.cell? ⟨w.heap.size + 1, 1, none⟩ = some (.int .i64 y.f1) := (blk_cell B1 1).trans rfl
  have m2 : W.cell? ⟨w.heap.size + 1, 2, none⟩ = some (.string y.f2) := (blk_cell B1 2).trans rfl
  clear B0 B1
  go_region_held3 (fun w' => w'.cell? ⟨w.heap.size, 0, none⟩ = some (.int .i64 x.f0) ∧ w'.cell? ⟨w.heap.size, 1, none⟩ = some (.int .i64 x.f1) ∧ w'.cell? ⟨w.heap.size, 2, none⟩ = some (.string x.f2) ∧ w'.cell? ⟨w.heap.size + 1, 0, none⟩ = some (.int .i64 y.f0) ∧ w'.cell? ⟨w.heap.size + 1, 1, none⟩ = some (.int .i64 y.f1) ∧ w'.cell? ⟨w.heap.size + 1, 2, none⟩ = some (.string y.f2)) (first
      | go_keep
      | assumption) (first
      | (go_at_call 106
         refine (cmp_Compare_int.calls _ _ _ _ (cmp_int' _ _)).mono ?_
         rintro e w1 ⟨rfl, hd⟩
         obtain ⟨n1, hn1⟩ := hd.out
         subst hn1
         clear hd)
      | (go_at_call 107
         refine (cmp_Compare_string.calls _ _ _ _ (cmp_str' _ _)).mono ?_
         rintro e w1 ⟨rfl, hd⟩
         obtain ⟨n1, hn1⟩ := hd.out
         subst hn1
         clear hd)
      | (go_at_call 105
         refine (value_first_int.calls 10 _ _ _ _ _ (C3 _ 3 _ _ _) (Nat.le_refl _) HF.out).mono ?_
         rintro e w1 ⟨rfl, hd⟩
         obtain ⟨n4, hn4⟩ := hd.out
         subst hn4
         clear hd))
  all_goals
    go_wp2
    go_ret
    refine ⟨rfl, ?_⟩
    repeat (first | exact hG | apply Gr.drewN | apply Gr.alloc | apply Gr.drew)
open Go.Sort Go.Shelf in
theorem cmpLays (blk off size : Nat) (w : World) : CmpLays Tryz.prog 70 #[] c35 3 vcmp blk off size w := fun m os dk _ x y => (value_Cmp.grows x y _).mono fun e w' h => ⟨h.1, h.2⟩
theorem isAgg35 (w : World) : (isAgg (Tryz.sortK_ren.t 24)).run Tryz.prog w = .ok true w := by kernel_rfl
theorem sizeOf35 (w : World) : (Go.sizeOf (Tryz.sortK_ren.t 24)).run Tryz.prog w = .ok 3 w := by kernel_rfl
theorem c35_one (x : S35) : ∀ v ∈ c35 x, v.oneCell' = true := by
  intro v hv
  simp [c35] at hv
  rcases hv with rfl | rfl | rfl <;> rfl
theorem flat35_get (L : List S35) (i j : Nat) (hi : i < L.length) (hj : j < 3) : (L.flatMap c35)[i * 3 + j]? = (c35 (L.getD i z35))[j]? := by
  induction L generalizing i with
  | nil => exact absurd hi (by simp)
  | cons y L ih =>
    cases i with
    | zero =>
      rw [List.flatMap_cons, List.getElem?_append_left (by simp [c35]; omega)]
      simp
    | succ i =>
      have h1 := ih i (by simpa using hi)
      rw [List.flatMap_cons, List.getElem?_append_right (by simp [c35]; omega)]
      simpa [c35, show (i + 1) * 3 + j - 3 = i * 3 + j by omega] using h1
theorem getD_toArray (L : List S35) (i : Nat) : L.toArray[i]! = L.getD i z35 := by
  by_cases h : i < L.length
  · rw [getElem!_pos L.toArray i (by simpa using h)]
    simp [List.getD_eq_getElem?_getD, List.getElem?_eq_getElem h]
  · rw [getElem!_neg L.toArray i (by simpa using h), List.getD_eq_getElem?_getD, List.getElem?_eq_none (by omega)]
    rfl
theorem holds35 {w : World} {base g cap : Nat} {L : List S35} (h : w.ownsRow base 35 3 (.slice (some ⟨g, 0, none⟩) L.length cap) L.length (L.flatMap c35)) : HoldsK c35 3 w g 0 L.toArray := by
  intro t ht
  have ht' : t < L.length * 3 := by simpa using ht
  have h1 := h.cellAt t ht'
  rw [Nat.zero_add]
  refine ⟨?_, h.frozenAt t⟩
  rw [h1, get_flatK c35 3 L.toArray t (by simpa using ht'), getD_toArray]
  have h2 := flat35_get L (t / 3) (t % 3) (by omega) (Nat.mod_lt _ (by decide))
  rw [show t / 3 * 3 + t % 3 = t by omega] at h2
  rw [h2]
  have h3 : t % 3 < (c35 (L.getD (t / 3) z35)).length := by
    show t % 3 < 3
    exact Nat.mod_lt _ (by decide)
  rw [List.getElem?_eq_getElem h3, getElem!_pos (c35 (L.getD (t / 3) z35)) (t % 3) h3]
  rfl
def Agree (b : Nat) (w W2 : World) : Prop := ∀ k, b ≤ k → k < w.heap.size → W2.heap[k]? = w.heap[k]?
theorem Agree.refl (b : Nat) (w : World) : Agree b w w := fun _ _ _ => rfl
theorem Agree.mono {b b' : Nat} {w W2 : World} (h : Agree b w W2) (hb : b ≤ b') : Agree b' w W2 := fun k hk hl => h k (Nat.le_trans hb hk) hl
theorem Agree.of_below {b : Nat} {w w' W2 : World} (h : Agree b w' W2) (hb : Below w.heap.size w w') : Agree b w W2 := fun k hk hl => (h k hk (Nat.lt_of_lt_of_le hl hb.size)).trans (hb.block k hl)
theorem Agree.row {b e size n : Nat} {w W2 : World} {v : Value} {xs : List Value} (h : w.ownsRow b e size v n xs) (ha : Agree b w W2) : W2.ownsRow b e size v n xs := by
  refine ⟨h.1, ?_⟩
  rcases h.2 with h | ⟨g, cap, cur, h1, h2, h3, h4⟩
  · exact Or.inl h
  · exact Or.inr ⟨g, cap, cur, h1, h2, (ha g h2 (Array.getElem?_eq_some_iff.1 h3).1).trans h3, h4⟩
theorem holds_agree {w W2 : World} {b g : Nat} {d : Array S35} (h : HoldsK c35 3 w g 0 d) (hb : b ≤ g) (hl : g < w.heap.size) (ha : Agree b w W2) : HoldsK c35 3 W2 g 0 d := by
  have e := ha g hb hl
  intro i hi
  obtain ⟨h1, h2⟩ := h i hi
  refine ⟨?_, ?_⟩
  · rw [← h1]
    exact World.cell?_of_block (w := w) e
  · rw [← h2]
    exact World.frozen?_of_block (w := w) e
theorem reads35 {w : World} {g : Nat} {d : Array S35} (h : HoldsK c35 3 w g 0 d) (hs : d.size ≤ 1000000) : Kd.C k35 w (some ⟨g, 0, none⟩) d.toList.length d.toList := by
  refine ⟨rfl, by simp; omega, fun _ => ⟨⟨g, 0, none⟩, rfl, fun j p hp => ⟨c35 p, rfl, k35_mk w p, fun i u hu => ?_⟩⟩⟩
  have hj : j < d.size := by simpa using (List.getElem?_eq_some_iff.1 hp).1
  have hi : i < 3 := (List.getElem?_eq_some_iff.1 hu).1
  have e : (⟨g, 0, none⟩ : Addr).add (j * k35.sz + i) = ⟨g, 0 + (j * 3 + i), none⟩ := by
    show (⟨g, 0, none⟩ : Addr).add (j * 3 + i) = _
    simp [Addr.add]
    intros
    omega
  rw [e, (h (j * 3 + i) (by simp; omega)).1, get_flatK c35 3 d _ (by omega), show (j * 3 + i) / 3 = j by omega, show (j * 3 + i) % 3 = i by omega]
  have hd : d[j]! = p := by
    rw [getElem!_pos d j hj]
    have := (List.getElem?_eq_some_iff.1 hp).2
    simpa using this
  rw [hd]
  obtain ⟨hl, hu'⟩ := List.getElem?_eq_some_iff.1 hu
  rw [getElem!_pos (c35 p) i hl, hu']
  rfl
theorem below_sorted {w W : World} {g n : Nat} {d : Array S35} {os : Array Obj} (h : Below w.heap.size w W) (hg : w.heap.size ≤ g) : Below w.heap.size w (sortWorldK c35 3 W g 0 n d os) := by
  refine ⟨h.os, h.tape, h.output, Nat.le_trans h.size (by show W.heap.size ≤ ((putRow id (Sort.ahead W n) g 0 (flatK c35 3 d)).heap ++ os).size; rw [Array.size_append, size_putRow]; exact Nat.le_add_right _ _), fun k hk => ?_⟩
  rw [← h.block k hk]
  have hk1 : k < W.heap.size := Nat.lt_of_lt_of_le hk h.size
  show ((putRow id (Sort.ahead W n) g 0 (flatK c35 3 d)).heap ++ os)[k]? = _
  rw [Array.getElem?_append_left (by simpa using hk1)]
  simp only [putRow, mapBlock, Array.getElem?_modify]
  rw [if_neg (by omega)]
  rfl
theorem pairwise_of {d : Array S35} (h : SortedIn (ltOf vcmp) 0 d.size d) (hn : d.toList.Nodup) : d.toList.Pairwise vlt := by
  rw [List.pairwise_iff_getElem]
  intro i j hi hj hij
  have hi' : i < d.size := by simpa using hi
  have hj' : j < d.size := by simpa using hj
  have h1 := h i j (Nat.zero_le _) hij hj'
  simp only [ltOf, decide_eq_false_iff_not, vcmp_neg] at h1
  rw [getElem!_pos d i hi', getElem!_pos d j hj'] at h1
  simp only [Array.getElem_toList]
  rcases vlt_total d[i] d[j] with h2 | h2 | h2
  · exact h2
  · exact absurd (by simpa using h2) (List.pairwise_iff_getElem.1 hn i j hi hj hij)
  · exact absurd h2 h1
theorem sort118 (ss : List S35) (m g cap : Nat) (hm : ss.length = m) (w1 : World) (hH : HoldsK c35 3 w1 g 0 ss.toArray) (hlt : g < w1.heap.size) (hl : ss.length < 4611686018427387904) :
    Calls Tryz.prog 118 #[.slice (some ⟨g, 0, none⟩) m cap, .func (.func 70) #[] #[]] w1 fun e w' => e = .returned (.tuple #[]) ∧ ∃ d' n os, PermIn 0 m ss.toArray d' ∧ SortedIn (ltOf vcmp) 0 m d' ∧ w' = sortWorldK c35 3 w1 g 0 n d' os := by
  have eg : ∀ args w, (callFunc 70 args).run Tryz.prog w = .ok (.enter 70 args) w := enters_of Tryz.func70 (by kernel_rfl) rfl
  have h := AnyQ.slices_SortFunc Tryz.sortK 3 isAgg35 sizeOf35 c35 (fun _ => rfl) c35_one vcmp swoV 70 #[] g 0 cap ss.toArray w1 eg (cmpLays g 0 ss.toArray.size w1) hH hlt (by simpa using hl)
  rw [show Tryz.sortK_ren.f 6 = 118 from rfl, List.size_toArray, hm] at h
  exact h
set_option maxRecDepth 100000 in
set_option maxHeartbeats 4000000 in
theorem sortedFunc_keys (Bm b nn : Nat) (D0 : DataW Unit) (ks : List S35) (hok : ∀ x ∈ ks, OkKey x) (hnd : ks.Nodup) (hlen : ks.length ≤ 1000000) (hsz : Maps.size D0 = ks.length) (hks : ∀ kl, Maps.has D0 kl = true ↔ ∃ x ∈ ks, keyL x = kl) (w : World) (hBm : Bm < w.heap.size)
    (hm : w.cell? ⟨Bm, 0, none⟩ = some (.map (some b))) (hown : w.ownsMap Tryz.prog 35 R0 b nn D0) :
    Calls Tryz.prog 86 #[.func (.func 119) #[] #[.pointer (some ⟨Bm, 0, none⟩)], .func (.func 70) #[] #[]] w fun e w' => ∃ A c ss, e = .returned (.slice A ss.length c) ∧ ss.Perm ks ∧ ss.Pairwise vlt ∧ (∀ W2, Agree w.heap.size w' W2 → Kd.C k35 W2 A ss.length ss) ∧ ss.length ≤ c ∧ Below w.heap.size w w' := by
  have H := Lib.hid (collect_keys Bm b nn D0 ks hok hnd hlen hsz hks w hBm hm hown)
  clear hok hsz hks hm hown
  have eg : ∀ args w, (callFunc 70 args).run Tryz.prog w = .ok (.enter 70 args) w := enters_of Tryz.func70 (by kernel_rfl) rfl
  go_enter Tryz.func86, Tryz.ntmps86
  go_wp2_with fail
  refine H.out.mono ?_
  rintro e w1 ⟨v, ss, rfl, h1, h2, h3, h4⟩
  have hsl : ss.length = ks.length := h1.length_eq
  rcases h2.2 with ⟨rfl, h0⟩ | ⟨g, cap, cur, rfl, hg, hgb, hcap, hcap2, hcs, htk⟩
  · obtain rfl : ss = [] := List.eq_nil_of_length_eq_zero h0
    have hS := Lib.hid (AnyF.slices_SortFunc_none Tryz.sortK none 0 (.func (.func 70) #[] #[]) w1)
    clear h2 h3
    go_wp2_with fail
    refine Calls.mono (show Calls Tryz.prog 118 #[.slice none 0 0, .func (.func 70) #[] #[]] w1 _ from hS.out) ?_
    rintro e w2 ⟨rfl, hw2⟩
    subst hw2
    go_wp2
    go_ret
    exact ⟨none, 0, [], rfl, h1, List.Pairwise.nil, fun _ _ => Kd.C_nil _ _, Nat.le_refl _, h4⟩
  · have hlt : g < w1.heap.size := blk_lt hgb
    have hH := holds35 h2
    have hS := Lib.hid (sort118 ss ks.length g cap hsl w1 hH hlt (by omega))
    have HH := Lib.hid hH
    clear h2 h3 hH htk hcs
    go_wp2_with fail
    refine hS.out.mono ?_
    rintro e w2 ⟨rfl, d', m, os, hperm, hsorted, hw2⟩
    rw [← hsl] at hperm hsorted
    have hds : d'.size = ss.length := by simpa using hperm.1
    have hp2 : d'.toList.Perm ss := by
      have := hperm.2.2
      simp only [Array.toList_extract, List.extract_eq_take_drop, List.drop_zero, Nat.sub_zero, List.toList_toArray] at this
      rw [List.take_of_length_le (by simp [hds]), List.take_of_length_le (Nat.le_refl _)] at this
      exact this
    have hK := holdsK_sortWorldK c35 3 w1 g 0 m ss.toArray d' os hlt HH.out (by simpa using hds)
    have hB := below_sorted (n := m) (d := d') (os := os) h4 hg
    rw [← hw2] at hK hB
    have HLT := Lib.hid (show g < w2.heap.size by rw [hw2]; exact Nat.lt_of_lt_of_le hlt (by first | exact size_sortWorldK_c _ _ _ | exact size_sortWorldK_c _ _ _ _ _ _ _ _))
    have HK := Lib.hid hK
    have HB := Lib.hid hB
    clear hw2 hK hB hS HH
    go_wp2
    go_ret
    have hdl : d'.toList.length = ss.length := by simpa using hds
    refine ⟨some ⟨g, 0, none⟩, cap, d'.toList, ?_, hp2.trans h1, ?_, fun W2 ha => reads35 (holds_agree HK.out hg HLT.out ha) (by omega), by omega, HB.out⟩
    · simp [hds, hsl]
    · refine pairwise_of ?_ ((hp2.trans h1).nodup_iff.2 hnd)
      rw [hds]
      simpa using hsorted
theorem inj_of_nodup : ∀ {l : List MapEntry}, (l.map (·.key)).Nodup → ∀ {a c : MapEntry}, a ∈ l → c ∈ l → a.key = c.key → a = c
  | [], _, _, _, ha, _, _ => by simp at ha
  | x :: l, h, a, c, ha, hc, e => by
    have h' := List.nodup_cons.1 (by simpa only [List.map_cons] using h)
    rcases List.mem_cons.1 ha with ea | ha1 <;> rcases List.mem_cons.1 hc with ec | hc1
    · rw [ea, ec]
    · exact absurd (show x.key ∈ l.map (·.key) from List.mem_map.2 ⟨c, hc1, by rw [← e, ea]⟩) h'.1
    · exact absurd (show x.key ∈ l.map (·.key) from List.mem_map.2 ⟨a, ha1, by rw [e, ec]⟩) h'.1
    · exact inj_of_nodup h'.2 ha1 hc1 e
theorem GM.vals {w : World} {B b : Nat} {L : List (S35 × List Int)} (h : GM w B b L) : ∃ val : S35 → Value, ∀ x ∈ L.map (·.1), (∀ u : World, u.heap[b]? = w.heap[b]? → (Instr.lookup 128 (.map (some b)) (keyV x) false).run Tryz.prog u = .ok (val x) u) ∧ w.ownsInts B 3 .i64 (val x) (idsOf L x) := by
  classical
  obtain ⟨es, clock, hb, hst, hbB, h4, h5, h6, h7, h8⟩ := h
  obtain ⟨s1, s2, s3⟩ := hst
  have hlen : es.toList.length = L.length := by
    have := congrArg List.length h4
    simpa using this
  refine ⟨fun x => if hx : ∃ e ∈ es.toList, e.key = keyV x then (Classical.choose hx).val else .slice none 0 0, fun x hx => ?_⟩
  obtain ⟨q, hq, rfl⟩ := List.mem_map.1 hx
  have hkx : keyV q.1 ∈ es.toList.map (·.key) := by rw [h4]; exact List.mem_map.2 ⟨q, hq, rfl⟩
  obtain ⟨e0, he0, e1⟩ := List.mem_map.1 hkx
  have hex : ∃ e ∈ es.toList, e.key = keyV q.1 := ⟨e0, he0, e1⟩
  have huniq : ∀ e ∈ es.toList, e.key = keyV q.1 → e = Classical.choose hex := by
    intro e he hk
    obtain ⟨hc, hck⟩ := Classical.choose_spec hex
    exact inj_of_nodup s3 he hc (hk.trans hck.symm)
  simp only [dif_pos hex]
  have hkey := keyOf35 q.1 (h5 q hq)
  constructor
  · intro u hu
    rw [hb] at hu
    rcases law35.find u hkey es.toList (keys_ok h4 h5) with ⟨f1, f2⟩ | ⟨j, e, f1, f2, f3⟩
    · exact absurd e1 (f2 e0 he0)
    · have := huniq e (List.mem_of_getElem? f2) f3
      subst this
      simp [Instr.lookup, run_underlying Tryz.underlying128, MapKept.run_getObj_map hu, law35.check u _ hkey, f1, Result.andThen]
  · obtain ⟨hc, hck⟩ := Classical.choose_spec hex
    obtain ⟨j, hj⟩ := List.getElem?_of_mem hc
    obtain ⟨hjl, _⟩ := List.getElem?_eq_some_iff.1 hj
    have hx0 : L[j]? = some (L[j]'(by omega)) := List.getElem?_eq_getElem (by omega)
    have hkp : (L[j]'(by omega)).1 = q.1 := by
      have h1 : (es.toList.map (·.key))[j]? = some (Classical.choose hex).key := by rw [List.getElem?_map, hj]; rfl
      rw [h4, List.getElem?_map, hx0] at h1
      have h2 : keyV (L[j]'(by omega)).1 = (Classical.choose hex).key := by simpa using h1
      exact keyV_inj (h2.trans hck)
    have hx1 : L[j]? = some (q.1, (L[j]'(by omega)).2) := by rw [hx0, ← hkp]
    rw [(addTo_old 0 j _ h6 hx1).2]
    exact h7 j _ _ hj hx0
theorem info75 : (Tryz.prog.info? 75).map (fun i => (i.zero, i.size, i.bytes)) = some (some (.slice none 0 0), 1, 24) := by kernel_rfl
theorem readsInts {w : World} {B : Nat} {v : Value} {zs : List Int} (h : w.ownsInts B 3 .i64 v zs) (hl : zs.length ≤ 1000000) : ∃ A c, v = .slice A zs.length c ∧ zs.length ≤ c ∧ Kd.C (Kd.int .i64) w A zs.length zs := by
  rcases h.1.2 with ⟨rfl, h0⟩ | ⟨g, cap, cur, rfl, hg, hgb, hcap, _, _, _⟩
  · obtain rfl : zs = [] := List.eq_nil_of_length_eq_zero h0
    exact ⟨none, 0, rfl, Nat.le_refl _, Kd.C_nil _ _⟩
  · refine ⟨some ⟨g, 0, none⟩, cap, rfl, hcap, rfl, by omega, fun _ => ⟨_, rfl, fun j p hp => ⟨[.int .i64 p], rfl, rfl, fun i u hu => ?_⟩⟩⟩
    match i, hu with
    | 0, hu =>
      obtain rfl := Option.some.inj hu
      have h1 := h.1.cells rfl j (.int .i64 p) (by rw [List.getElem?_map, hp]; rfl)
      simpa [Kd.int, Kd.scalar] using h1
theorem readsGroups {w : World} {B : Nat} {M : Value} {vs : List Value} {gs : List (List Int)} (hM : w.ownsRow B 75 1 M gs.length vs) (hv : ∀ (j : Nat) (zs : List Int), gs[j]? = some zs → zs.length ≤ 1000000 ∧ ∃ (B' : Nat) (v : Value), vs[j]? = some v ∧ w.ownsInts B' 3 .i64 v zs) (hl : gs.length ≤ 1000000) :
    ∃ A c, M = .slice A gs.length c ∧ gs.length ≤ c ∧ Kd.C (Kd.slice 3 (Kd.int .i64)) w A gs.length gs := by
  have hcells := fun g hg => hM.cells (g := g) hg
  rcases hM.2 with ⟨rfl, h0⟩ | ⟨g, cap, cur, rfl, hg, hgb, hcap, _, _, _⟩
  · obtain rfl : gs = [] := List.eq_nil_of_length_eq_zero h0
    exact ⟨none, 0, rfl, Nat.le_refl _, Kd.C_nil _ _⟩
  · refine ⟨some ⟨g, 0, none⟩, cap, rfl, hcap, rfl, by omega, fun _ => ⟨_, rfl, fun j p hp => ?_⟩⟩
    obtain ⟨hpl, B', v, hvj, ho⟩ := hv j p hp
    obtain ⟨A, c, rfl, hc, hC⟩ := readsInts ho hpl
    refine ⟨[.slice A p.length c], rfl, ⟨A, c, rfl, hc, hC⟩, fun i u hu => ?_⟩
    match i, hu with
    | 0, hu =>
      obtain rfl := Option.some.inj hu
      have h1 := hcells g rfl j _ hvj
      simpa [Kd.slice] using h1
theorem at_L35 {w : World} {A : Option Addr} {n : Nat} {xs : List (List S35)} (h : Kd.C (Kd.slice 35 k35) w A n xs) (i : Int) (h0 : 0 ≤ i) (h1 : i < n) : ∃ ad A0 c0, A = some ad ∧ w.cell? (ad.add i.toNat) = some (.slice A0 (xs.getD i.toNat []).length c0) ∧ (xs.getD i.toNat []).length ≤ c0 ∧ k35.C w A0 (xs.getD i.toNat []).length (xs.getD i.toNat []) := by
  obtain ⟨ad, c, e, _, hK, hc0⟩ := Kd.C_get h ([] : List S35) i h0 h1
  obtain ⟨A0, c0, rfl, hl, hC⟩ := hK
  exact ⟨ad, A0, c0, e, by simpa [Kd.slice] using hc0 0 _ rfl, hl, hC⟩
def grpFrom : List (S35 × List Int) → Nat → List S35 → List (S35 × List Int)
  | L, _, [] => L
  | L, i, p :: r => grpFrom (addTo L p i) (i + 1) r
theorem addTo_le {L : List (S35 × List Int)} {p : S35} {i : Int} {n : Nat} (h : ∀ x ∈ L, x.2.length ≤ n) : ∀ x ∈ addTo L p i, x.2.length ≤ n + 1 := by
  induction L with
  | nil => simp [addTo]
  | cons y L ih =>
    unfold addTo
    have h1 := h y (by simp)
    have h2 := ih (fun x hx => h x (by simp [hx]))
    split
    · intro x hx
      rcases List.mem_cons.1 hx with rfl | hx
      · simp; omega
      · have := h x (by simp [hx]); omega
    · intro x hx
      rcases List.mem_cons.1 hx with rfl | hx
      · omega
      · exact h2 x hx
theorem idsOf_le {L : List (S35 × List Int)} {p : S35} {n : Nat} (h : ∀ x ∈ L, x.2.length ≤ n) : (idsOf L p).length ≤ n := by
  induction L with
  | nil => simp [idsOf]
  | cons y L ih =>
    unfold idsOf
    split
    · exact h y (by simp)
    · exact ih (fun x hx => h x (by simp [hx]))
theorem GM.length_le {w : World} {B b : Nat} {L : List (S35 × List Int)} (h : GM w B b L) : True := trivial
theorem GM.ok {w : World} {B b : Nat} {L : List (S35 × List Int)} (h : GM w B b L) : (∀ x ∈ L, OkKey x.1) ∧ (L.map (·.1)).Nodup := by
  obtain ⟨es, clock, h1, h2, h3, h4, h5, h6, h7, h8⟩ := h
  exact ⟨h5, h6⟩
theorem addTo_len (L : List (S35 × List Int)) (p : S35) (i : Int) : (addTo L p i).length ≤ L.length + 1 := by
  induction L with
  | nil => simp [addTo]
  | cons x L ih =>
    unfold addTo
    split
    · simp
    · simp only [List.length_cons]; omega
theorem grp_len : ∀ (ps : List S35) (L : List (S35 × List Int)) (i : Nat), (grpFrom L i ps).length ≤ L.length + ps.length
  | [], L, _ => Nat.le_refl _
  | p :: ps, L, i => by
    have h1 := grp_len ps (addTo L p i) (i + 1)
    have h2 := addTo_len L p i
    simp only [grpFrom, List.length_cons]
    omega
theorem keys_calls (b : Option Nat) (w : World) : Calls Tryz.prog 87 #[.map b] w fun e w' => e = .returned (.func (.func 119) #[] #[.pointer (some ⟨w.heap.size, 0, none⟩)]) ∧ w' = w.alloc (.cells #[.map b] 128) := by
  have hu := Tryz.underlying128
  go_enter Tryz.func87, Tryz.ntmps87
  go_wp2
  go_ret
  exact ⟨rfl, rfl⟩
set_option maxRecDepth 100000 in
set_option maxHeartbeats 4000000 in
theorem partition_Group.walk (k : Nat) (a b n : Int) (A0 : Option Addr) (c0 : Nat) (l0 : List (List S35)) (ps : List S35) (hps : ps.length = l0.length) (hm : l0.length ≤ 100000)
    (hOf : ∀ j, j < l0.length → partition_Of.f k a b n (l0.getD j []) = some ((ps.getD j z35).f0, (ps.getD j z35).f1, (ps.getD j z35).f2)) (hok : ∀ p ∈ ps, OkKey p) (w : World) (hr : Kd.C (Kd.slice 35 k35) w A0 l0.length l0) (hc : l0.length ≤ c0) :
    Calls Tryz.prog 46 #[.agg #[.int .i64 a, .int .i64 b, .int .i64 n], .slice A0 l0.length c0] w fun e w' => ∃ A c A' c' ss, e = .returned (.tuple #[.slice A ss.length c, .slice A' (ss.map (idsOf (grpFrom [] 0 ps))).length c']) ∧ ss.Perm ((grpFrom [] 0 ps).map (·.1)) ∧ ss.Pairwise vlt ∧ (∀ W2, Agree w.heap.size w' W2 → Kd.C k35 W2 A ss.length ss) ∧ ss.length ≤ c ∧ (∀ W2, Agree w.heap.size w' W2 → Kd.C (Kd.slice 3 (Kd.int .i64)) W2 A' (ss.map (idsOf (grpFrom [] 0 ps))).length (ss.map (idsOf (grpFrom [] 0 ps)))) ∧ (ss.map (idsOf (grpFrom [] 0 ps))).length ≤ c' ∧ Below w.heap.size w w' := by
  have hu27 := Tryz.underlying27
  have hu35 := Tryz.underlying35
  have hu40 := Tryz.underlying40
  have hu28 := Tryz.underlying28
  have hu47 := Tryz.underlying47
  have hmm := @run_makeMap Tryz.prog
  obtain ⟨i0, hi, hz0, hz1, hz2⟩ := info_parts info3
  have HR := Lib.hid hr
  have HO := Lib.hid hOf
  have HK := Lib.hid hok
  clear hr hOf hok
  go_enter Tryz.func46, Tryz.ntmps46
  go_wp2
  have B0 := blk_alloc (heap_alloc_new w (.cells #[.int .i64 a, .int .i64 b, .int .i64 n] 27)) (.map #[] 0)
  have hG := GM.made (w.alloc (.cells #[.int .i64 a, .int .i64 b, .int .i64 n] 27))
  have hB := ((Below.refl w.heap.size w).alloc (Nat.le_refl _) (.cells #[.int .i64 a, .int .i64 b, .int .i64 n] 27)).alloc (by simp only [World.size_alloc]; omega) (.map #[] 0)
  simp only [World.size_alloc] at hG
  go_loopw [7, 8, 9, 17] (fun s7 s8 s9 s17 wr => ∃ (j : Nat) (L : List (S35 × List Int)), s17 = .int .i64 j ∧ j ≤ l0.length ∧ wr.heap[w.heap.size]? = some (.cells #[.int .i64 a, .int .i64 b, .int .i64 n] 27 (0, 0)) ∧ GM wr (w.heap.size + 1 + 1) (w.heap.size + 1) L ∧ (∀ x ∈ L, x.2.length ≤ j) ∧ grpFrom L j (ps.drop j) = grpFrom [] 0 ps ∧ Below w.heap.size w wr) (fun _ _ _ s17 _ => l0.length - (intOf s17).toNat)
  case atStart => exact ⟨0, [], rfl, Nat.zero_le _, B0, hG, by simp, by simp, hB⟩
  case round =>
    obtain ⟨j, L, rfl, hj, C0, hG, hle, hgr, hB⟩ := hrel
    by_cases hlt : j < l0.length
    · obtain ⟨ad, A1, c1, e0, t0, hc1, hr1⟩ := at_L35 (Kd.C_below HR.out hB) (j : Int) (by omega) (by omega)
      simp only [Int.toNat_natCast] at t0 hc1 hr1
      subst e0
      have hi0 : (0 : Int) ≤ (j : Int) := by omega
      have hi1 : (j : Int) < (l0.length : Int) := by omega
      have hd : decide ((j : Int) < (l0.length : Int)) = true := decide_eq_true hi1
      obtain ⟨p, hp⟩ : ∃ p, ps.getD j z35 = p := ⟨_, rfl⟩
      have hof := HO.out j hlt
      rw [hp] at hof
      have hpd : ps.drop j = p :: ps.drop (j + 1) := by
        rw [List.drop_eq_getElem_cons (by omega), ← hp, List.getD_eq_getElem?_getD, List.getElem?_eq_getElem (by omega)]
        rfl
      have hpk : OkKey p := HK.out p (List.mem_of_mem_drop (by rw [hpd]; simp))
      rw [hpd] at hgr
      generalize l0.getD j [] = row at *
      have k0 : wr.cell? ⟨w.heap.size, 0, none⟩ = some (.int .i64 a) := (blk_cell C0 0).trans rfl
      have k1 : wr.cell? ⟨w.heap.size, 1, none⟩ = some (.int .i64 b) := (blk_cell C0 1).trans rfl
      have k2 : wr.cell? ⟨w.heap.size, 2, none⟩ = some (.int .i64 n) := (blk_cell C0 2).trans rfl
      have HOF := Lib.hid hof
      have HGR := Lib.hid hgr
      have HGM := Lib.hid hG
      have HR1 := Lib.hid hr1
      have HLE := Lib.hid hle
      have HPK := Lib.hid hpk
      have HC0 := Lib.hid C0
      clear hof hgr hG hr1 hp hpd hle hpk C0
      go_wp2_with fail
      refine (partition_Of.calls k a b n A1 c1 row p.f0 p.f1 p.f2 _ HR1.out hc1 HOF.out).mono ?_
      rintro e w2 ⟨rfl, hb2⟩
      have hB2 := below_then hB hB.size hb2
      have hG2 := (HGM.out.kept hb2).kept ((Below.refl w2.heap.size w2).alloc (Nat.le_refl _) (.cells #[.int .i64 p.f0, .int .i64 p.f1, .string p.f2] 35))
      have hG3 := hG2.kept ((Below.refl _ (w2.alloc (.cells #[.int .i64 p.f0, .int .i64 p.f1, .string p.f2] 35))).alloc (Nat.le_refl _) (.cells #[.int .i64 (j : Int)] 3))
      obtain ⟨v, st, W4, hme, hg4, hs4, ho4, hstore⟩ := hG3.entry p HPK.out (j : Int)
      simp only [keyV, goInt] at hme hstore
      have HS := Lib.hid hstore
      clear hstore hG2 hG3
      have hcell : ∀ q u, ([Value.int .i64 (j : Int)])[q]? = some u → W4.cell? ((⟨w2.heap.size + 1, 0, none⟩ : Addr).add q) = some u := by
        intro q u hq
        match q, hq with
        | 0, hq =>
          simp at hq
          subst hq
          refine hg4.cell ?_ ?_
          · simp [Addr.add, go_sem]
          · have h1 := blk_lt HC0.out
            have h2 := hb2.size
            simp [Addr.add]
            omega
      have hil := idsOf_le (p := p) HLE.out
      have hszB : w.heap.size + 1 + 1 ≤ W4.heap.size := by
        have h1 := HGM.out
        obtain ⟨es, clock, q1, _⟩ := h1
        have h2 := (Array.getElem?_eq_some_iff.1 q1).1
        have h3 := hb2.size
        rw [hs4]
        simp
        omega
      have hwf : (Lit.int .i64 (j : Int)).wf = true := WalkArith.wf_i64 (by omega)
      go_wp2_with (at_builtin; refine wpList_append_own_at _ rfl _ _ 75 rfl (w.heap.size + 1 + 1) 3 i0 (.int .i64 0) 1 8 Tryz.underlying75 hi hz0 hz1 hz2 rfl (by decide) _ _ _ rfl ho4.1 ⟨w2.heap.size + 1, 0, none⟩ 1 1 [.int .i64 (j : Int)] rfl rfl hcell (by simp [Value.oneCell']) (by unfold maxLen; omega) (by omega) hszB ?_; intro v' w5 hown' hgrow hnil hloc; obtain ⟨w6, hes, hg6, hs6, hG6⟩ := HS.out w5 v' hgrow (ho4.appended hown' hwf) hloc)
      have lt0 : w.heap.size < w2.heap.size := Nat.lt_of_lt_of_le (blk_lt HC0.out) hb2.size
      have hvb : ∀ g, v.ownBlock = some g → w.heap.size + 1 + 1 ≤ g := fun g hg => (ho4.1.lt g hg).1
      have C1 := blk_alloc (blk_alloc (blk_below HC0.out hb2) (.cells #[.int .i64 p.f0, .int .i64 p.f1, .string p.f2] 35)) (.cells #[.int .i64 (j : Int)] 3)
      have C4 := (hg4.block w.heap.size (by simp; omega) (by simp)).trans C1
      have C5 := (hgrow.block w.heap.size (by rw [hs4]; simp; omega) (fun e => by have := hvb _ e.symm; omega)).trans C4
      have C6 := (hg6.block w.heap.size (by have := hgrow.size; rw [hs4] at this; simp at this; omega) (by simp)).trans C5
      have hB3 := (hB2.alloc hB2.size (.cells #[.int .i64 p.f0, .int .i64 p.f1, .string p.f2] 35)).alloc (by simp only [World.size_alloc]; omega) (.cells #[.int .i64 (j : Int)] 3)
      have hB4 := hB3.grown hg4 hB3.size (fun g h => by cases h; omega)
      have hB5 := hB4.grown hgrow hB4.size (fun g h => by have := hvb g h; omega)
      have hB6 := hB5.grown hg6 hB5.size (fun g h => by cases h; omega)
      refine ⟨⟨j + 1, addTo L p (j : Int), by simp, by omega, C6, hG6, addTo_le HLE.out, HGR.out, hB6⟩, by simp [intOf]; omega⟩
    · have hjl : j = l0.length := by omega
      have hd : decide ((j : Int) < (l0.length : Int)) = false := decide_eq_false (by omega)
      rw [List.drop_eq_nil_of_le (by omega)] at hgr
      have hL : L = grpFrom [] 0 ps := hgr
      clear hgr HR HO
      go_wp2_with fail
      refine (keys_calls (some (w.heap.size + 1)) wr).mono ?_
      rintro e w2 ⟨rfl, hw2⟩
      have hG2 : GM w2 (w.heap.size + 1 + 1) (w.heap.size + 1) L := hw2 ▸ hG.kept ((Below.refl wr.heap.size wr).alloc (Nat.le_refl _) _)
      have hB2 : Below w.heap.size w w2 := hw2 ▸ hB.alloc hB.size _
      have hbx : w2.cell? ⟨wr.heap.size, 0, none⟩ = some (.map (some (w.heap.size + 1))) := by rw [hw2]; simp [go_sem]
      have hlt2 : wr.heap.size < w2.heap.size := by rw [hw2]; simp
      have hLl := hG2.length_le
      have hL1 : L.length ≤ 1000000 := by
        have := grp_len ps [] 0
        rw [← hL] at this
        simp at this
        omega
      obtain ⟨es, hown, hsz, hhas⟩ := hG2.map hL1
      have hfacts := hG2.ok
      have HSF := Lib.hid (sortedFunc_keys wr.heap.size (w.heap.size + 1) L.length (Dof es) (L.map (·.1)) (fun x hx => by obtain ⟨q, hq, rfl⟩ := List.mem_map.1 hx; exact hfacts.1 q hq) hfacts.2 (by simpa using hL1) (by simpa using hsz) (fun kl => by rw [hhas kl]; exact ⟨fun ⟨x, hx, e⟩ => ⟨x.1, List.mem_map.2 ⟨x, hx, rfl⟩, e⟩, fun ⟨x, hx, e⟩ => by obtain ⟨q, hq, rfl⟩ := List.mem_map.1 hx; exact ⟨q, hq, e⟩⟩) w2 hlt2 hbx hown)
      have HG2 := Lib.hid hG2
      have HB2 := Lib.hid hB2
      have hil : ∀ p, (idsOf L p).length ≤ 100000 := fun p => Nat.le_trans (idsOf_le hle) (by omega)
      clear hw2 hG2 hB2 hown hhas hsz hG hB hbx hfacts hle C0 HK
      go_wp2_with fail
      refine HSF.out.mono ?_
      rintro e w3 ⟨A, c, ss, rfl, hperm, hpw, hC3, hc3, hb3⟩
      have hG3 := HG2.out.kept hb3
      have hB3 := below_then HB2.out HB2.out.size hb3
      obtain ⟨val, hval⟩ := hG3.vals
      have hmem : ∀ x ∈ ss, x ∈ L.map (·.1) := fun x hx => (List.Perm.mem_iff hperm).1 hx
      have hsl : ss.length ≤ 1000000 := by have := hperm.length_eq; simp at this; omega
      have hb0 : w.heap.size + 1 < w3.heap.size := by obtain ⟨es9, clock9, h9, _⟩ := hG3; exact (Array.getElem?_eq_some_iff.1 h9).1
      obtain ⟨i1, hi1, hz10, hz11, hz12⟩ := info_parts info75
      have HV := Lib.hid hval
      have HC3 := Lib.hid (fun W2 (ha : Agree w.heap.size w3 W2) => hC3 W2 (ha.mono HB2.out.size))
      have HP := Lib.hid hperm
      have HPW := Lib.hid hpw
      have HB3 := Lib.hid hB3
      have HMEM := Lib.hid hmem
      have HIL := Lib.hid hil
      clear HSF HG2 HB2 hb3 hG3 hval hC3 hperm hpw hB3 hmem hil
      go_wp2
      go_loopw [11, 13, 39] (fun s11 s13 s39 w4 => ∃ (j : Nat), s39 = .int .i64 j ∧ j ≤ ss.length ∧ w4.ownsRow w3.heap.size 75 1 s11 j ((ss.take j).map val) ∧ Below w3.heap.size w3 w4) (fun _ _ s39 _ => ss.length - (intOf s39).toNat)
      case atStart => exact ⟨0, rfl, Nat.zero_le _, World.ownsRow_nil _ _ _ _, Below.refl _ _⟩
      case round =>
        obtain ⟨j, rfl, hj, hown, hb⟩ := hrel
        by_cases hlt : j < ss.length
        · obtain ⟨ad, e0, t0, t1, t2⟩ := at_T35 (Kd.C_below (HC3.out w3 (Agree.refl _ _)) hb) (j : Int) (by omega) (by omega)
          simp only [Int.toNat_natCast] at t0 t1 t2
          subst e0
          have hi0 : (0 : Int) ≤ (j : Int) := by omega
          have hi1' : (j : Int) < (ss.length : Int) := by omega
          have hd : decide ((j : Int) < (ss.length : Int)) = true := decide_eq_true hi1'
          have hrd : ss[j]? = some (rd_T35 ss j) := by
            rw [rd_T35, Int.toNat_natCast, List.getD_eq_getElem?_getD, List.getElem?_eq_getElem hlt]; rfl
          have hxm : rd_T35 ss j ∈ L.map (·.1) := HMEM.out _ (List.mem_of_getElem? hrd)
          generalize rd_T35 ss (j : Int) = x at *
          have hlk := (HV.out x hxm).1 (wr.alloc (.cells #[.int .i64 x.f0, .int .i64 x.f1, .string x.f2] 35)) (by rw [Below.heap_alloc _ _ _ (by have := hb.size; omega)]; exact hb.block _ hb0)
          simp only [keyV, goInt] at hlk
          obtain ⟨A9, n9, c9, hvx⟩ : ∃ A n c, val x = .slice A n c := by
            rcases (HV.out x hxm).2.1.2 with ⟨e, _⟩ | ⟨_, _, _, e, _⟩ <;> rw [e] <;> exact ⟨_, _, _, rfl⟩
          rw [hvx] at hlk
          have hcell : ∀ q u, ([Value.slice A9 n9 c9])[q]? = some u → ((wr.alloc (.cells #[.int .i64 x.f0, .int .i64 x.f1, .string x.f2] 35)).alloc (.cells #[.slice A9 n9 c9] 75)).cell? ((⟨wr.heap.size + 1, 0, none⟩ : Addr).add q) = some u := by
            have := cell_one_new (wr.alloc (.cells #[.int .i64 x.f0, .int .i64 x.f1, .string x.f2] 35)) (.slice A9 n9 c9) 75
            simpa using this
          have hbs := hb.size
          go_wp2_with (at_builtin; refine wpList_append_own_at _ rfl _ _ 47 rfl w3.heap.size 75 i1 (.slice none 0 0) 1 24 hu47 hi1 hz10 hz11 hz12 rfl (by decide) _ j _ rfl ((hown.alloc _).alloc _) ⟨wr.heap.size + 1, 0, none⟩ 1 1 [.slice A9 n9 c9] rfl rfl hcell (by simp [Value.oneCell']) (by unfold maxLen; omega) (by omega) (by simp; omega) ?_; intro v' w5 hown' hgrow hnil hloc)
          have hB5 := ((hb.alloc hbs (.cells #[.int .i64 x.f0, .int .i64 x.f1, .string x.f2] 35)).alloc (by simp only [World.size_alloc]; omega) (.cells #[.slice A9 n9 c9] 75)).grown hgrow (by simp only [World.size_alloc]; omega) (fun g h => (hown.lt g h).1)
          refine ⟨⟨j + 1, by simp, by omega, ?_, hB5⟩, by simp [intOf]; omega⟩
          rw [List.take_add_one, hrd, List.map_append]
          simpa [hvx] using hown'
        · have hjl : j = ss.length := by omega
          have hd : decide ((j : Int) < (ss.length : Int)) = false := decide_eq_false (by omega)
          subst hjl
          rw [List.take_length] at hown
          have hRG : ∀ W2, Agree w.heap.size wr W2 → ∃ A c, u11 = .slice A ss.length c ∧ ss.length ≤ c ∧ Kd.C (Kd.slice 3 (Kd.int .i64)) W2 A ss.length (ss.map (idsOf L)) := fun W2 ha => by
            have hx := readsGroups (w := W2) (gs := ss.map (idsOf L)) (by simpa using Agree.row hown (ha.mono HB3.out.size)) (by
              intro q zs hq
              rw [List.getElem?_map] at hq
              obtain ⟨x, hx, rfl⟩ := Option.map_eq_some_iff.1 hq
              refine ⟨Nat.le_trans (HIL.out x) (by omega), w.heap.size + 1 + 1, val x, by rw [List.getElem?_map, hx]; rfl, ?_⟩
              have hxm := HMEM.out x (List.mem_of_getElem? hx)
              have ha3 : Agree (w.heap.size + 1 + 1) w3 W2 := (ha.of_below hb).mono (by omega)
              exact ⟨Agree.row (HV.out x hxm).2.1 ha3, (HV.out x hxm).2.2⟩) (by simpa using hsl)
            simpa using hx
          obtain ⟨A', c', hM, hcc, _⟩ := hRG wr (Agree.refl _ _)
          have hCG : ∀ W2, Agree w.heap.size wr W2 → Kd.C (Kd.slice 3 (Kd.int .i64)) W2 A' ss.length (ss.map (idsOf L)) := fun W2 ha => by
            obtain ⟨A9, c9, h9, _, hC9⟩ := hRG W2 ha
            have := hM.symm.trans h9
            injection this with e1 e2 e3
            rw [e1]
            exact hC9
          have hC4 : ∀ W2, Agree w.heap.size wr W2 → Kd.C k35 W2 A ss.length ss := fun W2 ha => HC3.out W2 (ha.of_below hb)
          subst hM
          have hB4 := below_then HB3.out HB3.out.size hb
          clear HC3 HV HB3 hb hown hRG
          subst hL
          go_wp2
          exact bodyPost_ret (v := .tuple #[.slice A ss.length c, .slice A' ss.length c']) (by simp [results, Tryz.results46, go_sem, *]) rfl ⟨A, c, A', c', ss, by simp, HP.out, HPW.out, hC4, hc3, fun W2 ha => by simpa using hCG W2 ha, by simpa using hcc, hB4⟩
end Go.Proofs.YteflfnjljjianaaGreatDoor.Qx
namespace Go.Proofs.YteflfnjljjianaaGreatDoor.Qx
open Go.RowKit Go.Proofs.YteflfnjljjianaaGreatDoorW.PrintWords Go.Proofs.YteflfnjljjianaaGreatDoorW.PrintLast Go.Proofs.YteflfnjljjianaaGreatDoorW.PrintMore
attribute [local go_sem] max2_int min2_int max_two min_two
set_option linter.unusedVariables false
set_option linter.unusedSimpArgs false
abbrev bounds_logic.E : Array MapEntry := #[⟨.int .i64 6, .func (.func 181) #[] #[], 0⟩, ⟨.int .i64 7, .func (.func 182) #[] #[], 1⟩, ⟨.int .i64 8, .func (.func 183) #[] #[], 2⟩, ⟨.int .i64 9, .func (.func 184) #[] #[], 3⟩]
def bounds_logic.Post (w : World) (e : Ending) (w' : World) : Prop := ∃ g, e = .returned (.map (some g)) ∧ w'.heap[g]? = some (.map bounds_logic.E 4) ∧ w.heap.size ≤ g ∧ Below w.heap.size w w'
set_option maxHeartbeats 4000000 in
set_option maxRecDepth 100000 in
theorem bounds_logic.made (w : World) : Calls Tryz.prog 155 #[] w (bounds_logic.Post w) := by
  have hu := Tryz.underlying198
  have hu3 := Tryz.underlying3
  have hmm := @run_makeMap Tryz.prog
  have q0 : (Instr.mapUpdate 198 (.map (some w.heap.size)) (.int .i64 6) (.func (.func 181) #[] #[])).run Tryz.prog (w.alloc (.map #[] 0)) = .ok () (w.alloc (.map #[⟨.int .i64 6, .func (.func 181) #[] #[], 0⟩] 1)) := by
    rw [mapPut (.int .i64) Tryz.underlying198 Tryz.underlying3 (.inr ⟨_, rfl⟩) _ _ _ _ _ _ (heap_alloc_new w _) rfl]
    rw [alloc_setObj]; rfl
  have q1 : (Instr.mapUpdate 198 (.map (some w.heap.size)) (.int .i64 7) (.func (.func 182) #[] #[])).run Tryz.prog (w.alloc (.map #[⟨.int .i64 6, .func (.func 181) #[] #[], 0⟩] 1)) = .ok () (w.alloc (.map #[⟨.int .i64 6, .func (.func 181) #[] #[], 0⟩, ⟨.int .i64 7, .func (.func 182) #[] #[], 1⟩] 2)) := by
    rw [mapPut (.int .i64) Tryz.underlying198 Tryz.underlying3 (.inr ⟨_, rfl⟩) _ _ _ _ _ _ (heap_alloc_new w _) rfl]
    rw [alloc_setObj]; rfl
  have q2 : (Instr.mapUpdate 198 (.map (some w.heap.size)) (.int .i64 8) (.func (.func 183) #[] #[])).run Tryz.prog (w.alloc (.map #[⟨.int .i64 6, .func (.func 181) #[] #[], 0⟩, ⟨.int .i64 7, .func (.func 182) #[] #[], 1⟩] 2)) = .ok () (w.alloc (.map #[⟨.int .i64 6, .func (.func 181) #[] #[], 0⟩, ⟨.int .i64 7, .func (.func 182) #[] #[], 1⟩, ⟨.int .i64 8, .func (.func 183) #[] #[], 2⟩] 3)) := by
    rw [mapPut (.int .i64) Tryz.underlying198 Tryz.underlying3 (.inr ⟨_, rfl⟩) _ _ _ _ _ _ (heap_alloc_new w _) rfl]
    rw [alloc_setObj]; rfl
  have q3 : (Instr.mapUpdate 198 (.map (some w.heap.size)) (.int .i64 9) (.func (.func 184) #[] #[])).run Tryz.prog (w.alloc (.map #[⟨.int .i64 6, .func (.func 181) #[] #[], 0⟩, ⟨.int .i64 7, .func (.func 182) #[] #[], 1⟩, ⟨.int .i64 8, .func (.func 183) #[] #[], 2⟩] 3)) = .ok () (w.alloc (.map #[⟨.int .i64 6, .func (.func 181) #[] #[], 0⟩, ⟨.int .i64 7, .func (.func 182) #[] #[], 1⟩, ⟨.int .i64 8, .func (.func 183) #[] #[], 2⟩, ⟨.int .i64 9, .func (.func 184) #[] #[], 3⟩] 4)) := by
    rw [mapPut (.int .i64) Tryz.underlying198 Tryz.underlying3 (.inr ⟨_, rfl⟩) _ _ _ _ _ _ (heap_alloc_new w _) rfl]
    rw [alloc_setObj]; rfl
  go_enter Tryz.func155, Tryz.ntmps155
  go_wp2
  go_ret
  exact ⟨_, rfl, heap_alloc_new w _, Nat.le_refl _, (Below.refl _ w).alloc (Nat.le_refl _) _⟩
theorem bounds_logic.miss (g : Nat) (n : Int) (h : n < 6 ∨ 9 < n) : ∀ W : World, W.heap[g]? = some (.map bounds_logic.E 4) → (Instr.lookup 198 (.map (some g)) (.int .i64 n) true).run Tryz.prog W = .ok (.tuple #[.nilFunc, .bool false]) W := fun W hg =>
  mapMissOk (.int .i64) Tryz.underlying198 Tryz.underlying3 (.inr ⟨_, rfl⟩) W g _ _ _ _ Tryz.zeroValue196 hg (by
    have h6 : (n == 6) = false := by simp; omega
    have h7 : (n == 7) = false := by simp; omega
    have h8 : (n == 8) = false := by simp; omega
    have h9 : (n == 9) = false := by simp; omega
    simp [Instr.findNow, Instr.sameNow, h6, h7, h8, h9])
end Go.Proofs.YteflfnjljjianaaGreatDoor.Qx
namespace Go.Proofs.YteflfnjljjianaaGreatDoor.Qx
open Go.RowKit Go.Proofs.YteflfnjljjianaaGreatDoorW.PrintWords Go.Proofs.YteflfnjljjianaaGreatDoorW.PrintLast Go.Proofs.YteflfnjljjianaaGreatDoorW.PrintMore
attribute [local go_sem] max2_int min2_int max_two min_two
set_option linter.unusedVariables false
set_option linter.unusedSimpArgs false
abbrev bounds_strict.E : Array MapEntry := #[⟨.int .i64 3, .func (.func 185) #[] #[], 0⟩, ⟨.int .i64 4, .func (.func 186) #[] #[], 1⟩, ⟨.int .i64 5, .func (.func 187) #[] #[], 2⟩, ⟨.int .i64 12, .func (.func 188) #[] #[], 3⟩, ⟨.int .i64 10, .func (.func 189) #[] #[], 4⟩, ⟨.int .i64 11, .func (.func 190) #[] #[], 5⟩]
def bounds_strict.Post (w : World) (e : Ending) (w' : World) : Prop := ∃ g, e = .returned (.map (some g)) ∧ w'.heap[g]? = some (.map bounds_strict.E 6) ∧ w.heap.size ≤ g ∧ Below w.heap.size w w'
set_option maxHeartbeats 4000000 in
set_option maxRecDepth 100000 in
theorem bounds_strict.made (w : World) : Calls Tryz.prog 156 #[] w (bounds_strict.Post w) := by
  have hu := Tryz.underlying198
  have hu3 := Tryz.underlying3
  have hmm := @run_makeMap Tryz.prog
  have q0 : (Instr.mapUpdate 198 (.map (some w.heap.size)) (.int .i64 3) (.func (.func 185) #[] #[])).run Tryz.prog (w.alloc (.map #[] 0)) = .ok () (w.alloc (.map #[⟨.int .i64 3, .func (.func 185) #[] #[], 0⟩] 1)) := by
    rw [mapPut (.int .i64) Tryz.underlying198 Tryz.underlying3 (.inr ⟨_, rfl⟩) _ _ _ _ _ _ (heap_alloc_new w _) rfl]
    rw [alloc_setObj]; rfl
  have q1 : (Instr.mapUpdate 198 (.map (some w.heap.size)) (.int .i64 4) (.func (.func 186) #[] #[])).run Tryz.prog (w.alloc (.map #[⟨.int .i64 3, .func (.func 185) #[] #[], 0⟩] 1)) = .ok () (w.alloc (.map #[⟨.int .i64 3, .func (.func 185) #[] #[], 0⟩, ⟨.int .i64 4, .func (.func 186) #[] #[], 1⟩] 2)) := by
    rw [mapPut (.int .i64) Tryz.underlying198 Tryz.underlying3 (.inr ⟨_, rfl⟩) _ _ _ _ _ _ (heap_alloc_new w _) rfl]
    rw [alloc_setObj]; rfl
  have q2 : (Instr.mapUpdate 198 (.map (some w.heap.size)) (.int .i64 5) (.func (.func 187) #[] #[])).run Tryz.prog (w.alloc (.map #[⟨.int .i64 3, .func (.func 185) #[] #[], 0⟩, ⟨.int .i64 4, .func (.func 186) #[] #[], 1⟩] 2)) = .ok () (w.alloc (.map #[⟨.int .i64 3, .func (.func 185) #[] #[], 0⟩, ⟨.int .i64 4, .func (.func 186) #[] #[], 1⟩, ⟨.int .i64 5, .func (.func 187) #[] #[], 2⟩] 3)) := by
    rw [mapPut (.int .i64) Tryz.underlying198 Tryz.underlying3 (.inr ⟨_, rfl⟩) _ _ _ _ _ _ (heap_alloc_new w _) rfl]
    rw [alloc_setObj]; rfl
  have q3 : (Instr.mapUpdate 198 (.map (some w.heap.size)) (.int .i64 12) (.func (.func 188) #[] #[])).run Tryz.prog (w.alloc (.map #[⟨.int .i64 3, .func (.func 185) #[] #[], 0⟩, ⟨.int .i64 4, .func (.func 186) #[] #[], 1⟩, ⟨.int .i64 5, .func (.func 187) #[] #[], 2⟩] 3)) = .ok () (w.alloc (.map #[⟨.int .i64 3, .func (.func 185) #[] #[], 0⟩, ⟨.int .i64 4, .func (.func 186) #[] #[], 1⟩, ⟨.int .i64 5, .func (.func 187) #[] #[], 2⟩, ⟨.int .i64 12, .func (.func 188) #[] #[], 3⟩] 4)) := by
    rw [mapPut (.int .i64) Tryz.underlying198 Tryz.underlying3 (.inr ⟨_, rfl⟩) _ _ _ _ _ _ (heap_alloc_new w _) rfl]
    rw [alloc_setObj]; rfl
  have q4 : (Instr.mapUpdate 198 (.map (some w.heap.size)) (.int .i64 10) (.func (.func 189) #[] #[])).run Tryz.prog (w.alloc (.map #[⟨.int .i64 3, .func (.func 185) #[] #[], 0⟩, ⟨.int .i64 4, .func (.func 186) #[] #[], 1⟩, ⟨.int .i64 5, .func (.func 187) #[] #[], 2⟩, ⟨.int .i64 12, .func (.func 188) #[] #[], 3⟩] 4)) = .ok () (w.alloc (.map #[⟨.int .i64 3, .func (.func 185) #[] #[], 0⟩, ⟨.int .i64 4, .func (.func 186) #[] #[], 1⟩, ⟨.int .i64 5, .func (.func 187) #[] #[], 2⟩, ⟨.int .i64 12, .func (.func 188) #[] #[], 3⟩, ⟨.int .i64 10, .func (.func 189) #[] #[], 4⟩] 5)) := by
    rw [mapPut (.int .i64) Tryz.underlying198 Tryz.underlying3 (.inr ⟨_, rfl⟩) _ _ _ _ _ _ (heap_alloc_new w _) rfl]
    rw [alloc_setObj]; rfl
  have q5 : (Instr.mapUpdate 198 (.map (some w.heap.size)) (.int .i64 11) (.func (.func 190) #[] #[])).run Tryz.prog (w.alloc (.map #[⟨.int .i64 3, .func (.func 185) #[] #[], 0⟩, ⟨.int .i64 4, .func (.func 186) #[] #[], 1⟩, ⟨.int .i64 5, .func (.func 187) #[] #[], 2⟩, ⟨.int .i64 12, .func (.func 188) #[] #[], 3⟩, ⟨.int .i64 10, .func (.func 189) #[] #[], 4⟩] 5)) = .ok () (w.alloc (.map #[⟨.int .i64 3, .func (.func 185) #[] #[], 0⟩, ⟨.int .i64 4, .func (.func 186) #[] #[], 1⟩, ⟨.int .i64 5, .func (.func 187) #[] #[], 2⟩, ⟨.int .i64 12, .func (.func 188) #[] #[], 3⟩, ⟨.int .i64 10, .func (.func 189) #[] #[], 4⟩, ⟨.int .i64 11, .func (.func 190) #[] #[], 5⟩] 6)) := by
    rw [mapPut (.int .i64) Tryz.underlying198 Tryz.underlying3 (.inr ⟨_, rfl⟩) _ _ _ _ _ _ (heap_alloc_new w _) rfl]
    rw [alloc_setObj]; rfl
  go_enter Tryz.func156, Tryz.ntmps156
  go_wp2
  go_ret
  exact ⟨_, rfl, heap_alloc_new w _, Nat.le_refl _, (Below.refl _ w).alloc (Nat.le_refl _) _⟩
theorem bounds_strict.at3 (g : Nat) : ∀ W : World, W.heap[g]? = some (.map bounds_strict.E 6) → (Instr.lookup 198 (.map (some g)) (.int .i64 3) false).run Tryz.prog W = .ok (.func (.func 185) #[] #[]) W := fun W hg =>
  mapGet (.int .i64) Tryz.underlying198 Tryz.underlying3 (.inr ⟨_, rfl⟩) W g _ _ _ _ 0 hg rfl
end Go.Proofs.YteflfnjljjianaaGreatDoor.Qx
