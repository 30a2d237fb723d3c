/- Part of a proof of PartitionGroupsCardSaid: functions of the given program and what they compute, each checked by the kernel. -/
import Derived.Test.YteflfnjljjianaaGreatDoorPG02
import Derived.RangeFuncFrom
import Derived.RangeFuncCalls
import Derived.RangeFuncLeaves
import Derived.OwnWalkIn
import Derived.TacticsInMore
import Derived.LoopNIn
import Derived.LoopIn
import Derived.Shelf.RegionOpen
import Derived.Shelf.Abstract
import Derived.Deep.RegionHeld3
import Derived.Deep.AppendLies
import Derived.Laws.Closers25b
import Derived.Lib.AppendStr
namespace Go.Proofs.YteflfnjljjianaaGreatDoor.Qx
open Go.RowKit Go.Proofs.YteflfnjljjianaaGreatDoorW.PrintWords Go.Proofs.YteflfnjljjianaaGreatDoorW.PrintLast Go.Proofs.YteflfnjljjianaaGreatDoorW.PrintMore
attribute [local go_sem] max2_int min2_int max_two min_two
set_option linter.unusedVariables false
set_option linter.unusedSimpArgs false
def digStep (h x : Int) : Int := IntKind.u64.wrap (bits BinOp.xor IntKind.u64 (IntKind.u64.wrap (bits BinOp.xor IntKind.u64 h x * 15485907386658061715)) (IntKind.u64.wrap (bits BinOp.xor IntKind.u64 h x * 15485907386658061715) / 4294967296) * 11562461410679940143)
set_option maxRecDepth 100000 in
set_option maxHeartbeats 2000000 in
theorem digest_add.one (sa ad : Addr) (c : Nat) (h x : Int) (w : World) (h0 : w.cell? sa = some (.int .u64 h)) (hf : w.frozen? sa = false) (h1 : w.cell? ad = some (.int .u64 x)) :
    Calls Tryz.prog 142 #[.pointer (some sa), .slice (some ad) 1 c] w fun e w' => e = .returned (.tuple #[]) ∧ w' = w.setCell sa (.int .u64 (digStep h x)) := by
  have hu173 := Tryz.underlying173
  have hu205 := Tryz.underlying205
  have ez : ad.add (0 * 1) = ad := rfl
  have ez2 : ad.add 0 = ad := rfl
  go_enter Tryz.func142, Tryz.ntmps142
  go_wp2
  refine wp_loop_rounds 2 ?_
  rw [rounds_succ]
  go_wp2
  rw [rounds_succ]
  go_wp2
  go_end0
  exact ⟨rfl, rfl⟩
section
variable {F : Fence} {n : Nat} {P : Program}
structure ButBox (gb : Nat) (A B : World) : Prop where
  os : B.os = A.os
  tape : B.tape = A.tape
  output : B.output = A.output
  size : A.heap.size = B.heap.size
  block : ∀ k, k ≠ gb → B.heap[k]? = A.heap[k]?
theorem ButBox.setCell (gb : Nat) (W : World) (v : Value) : ButBox gb W (W.setCell ⟨gb, 0, none⟩ v) :=
  ⟨rfl, rfl, rfl, by simp, fun k hk => Below.heap_setCell W ⟨gb, 0, none⟩ v k hk⟩
theorem wpIn_rangeFunc_box {α : Type} {g : Operand} {ps : Array Tmp} {assign body : Code} {Q : Exit → Act → World → Prop} {a : Act} {w : World}
    (hro : F.round = none) (h1 : 1 ≤ n) {gf : Nat} {lb : Array Value} (hg : a.eval g = .func (.func gf) #[] lb) (hFg : F.fn gf) (eg : ∀ args w, (callFunc gf args).run P w = .ok (.enter gf args) w)
    {encs : α → Array Value} (hps : ∀ x, (encs x).size = ps.size) (gb : Nat) (hgb : gb < w.heap.size) (keep : Nat → Prop) (xs : List α) (I : List α → World → Prop)
    (hseq : ∀ (J : List α → World → Prop) (W : World), Below w.heap.size w W → (∀ pre A B, J pre A → ButBox gb A B → J pre B) →
      (∀ pre x W1, J pre W1 → YieldAt F (n - 1 - 1) P (w.heap.size + 1) (encs x) W1 fun e W' => e = .returned (.bool true) ∧ J (pre ++ [x]) W' ∧ W1.heap.size ≤ W'.heap.size ∧ ∀ k, k < w.heap.size → keep k → W'.heap[k]? = W1.heap[k]?) →
      J [] W → CallsIn F (n - 1) P gf (#[.func (.yield (w.heap.size + 1)) #[] #[]] ++ lb) W fun e W' => (∃ v, e = .returned v) ∧ J xs W')
    (hI : ∀ pre A B, I pre A → ButBox gb A B → I pre B) (hIp : ∀ pre W l o, w.heap.size ≤ l → I pre W → I pre (W.putObj l o)) (h0 : ∀ W, Below w.heap.size w W → I [] W) (a₁ : α → Act)
    (hassign : ∀ (l : Nat) (x : α) (W : World) (K : Act → World → Prop), K (a₁ x) W →
      assign.wpIn (F.inRound l) (n - 1 - 1) P (Exit.then K (fun _ _ _ => False)) { tmps := (ps.zip (encs x)).foldl (fun t (p, v) => t.setIfInBounds p v) a.tmps, defers := [] } W)
    (hbody : ∀ (l : Nat) (pre : List α) (x : α) (W : World), I pre W → body.wpIn (F.inRound l) (n - 1 - 1) P (fun e _ W' => e = .normal ∧ I (pre ++ [x]) W' ∧ W.heap.size ≤ W'.heap.size ∧ ∀ k, k < W.heap.size → (k < w.heap.size → keep k) → W'.heap[k]? = W.heap[k]?) (a₁ x) W)
    (hdone : ∀ (D : Nat) (W : World), w.heap.size ≤ D → I xs W → W.heap[D]? = some (.deferred (some [])) → Q .normal { a with defers := { target := .collected D, args := #[] } :: a.defers } W) :
    (Code.rangeFunc g ps assign body).wpIn F n P Q a w := by
  refine wpIn_rangeFunc ?_
  intro fn hfn
  rw [hro]
  obtain ⟨rec, hrec⟩ : ∃ rec : LoopState → Option Code → Loop, rec = fun st pe => { state := st, pending := pe, fn, tmps := a.tmps, params := ps, assign, body, defers := w.heap.size } := ⟨_, rfl⟩
  obtain ⟨W1, hW1⟩ : ∃ W1, (w.alloc (.deferred (some []))).alloc (.loop (rec .ready none)) = W1 := ⟨_, rfl⟩
  have hL1 : W1.heap[w.heap.size + 1]? = some (.loop (rec .ready none)) := by
    rw [← hW1]
    have := World.alloc_heap_new (w.alloc (.deferred (some []))) (.loop (rec .ready none))
    rwa [World.size_alloc] at this
  have hK1 : W1.heap[w.heap.size]? = some (.deferred (some [])) := by
    rw [← hW1]
    exact (Below.heap_alloc _ _ _ (by simp)).trans (World.alloc_heap_new w _)
  have hb1 : Below w.heap.size w W1 := by
    rw [← hW1]
    exact ((Below.refl _ w).alloc (Nat.le_refl _) _).alloc (by simp) _
  refine ⟨w.heap.size + 1, [{ target := .collected w.heap.size, args := #[] }], W1, { target := .fn (.func gf) lb, args := #[.func (.yield (w.heap.size + 1)) #[] #[]] }, W1, gf,
    #[.func (.yield (w.heap.size + 1)) #[] #[]] ++ lb, W1, ?_, ?_, ?_, ?_, fun _ => h1, ?_⟩
  · rw [← hW1, hrec]
    exact run_enterLoop_outer _ _ _ _ _
  · simp only [resolve, hg]
    simp [go_sem]
  · intro f' hf'
    simp [Target.leads] at hf'
    subst hf'
    exact hFg
  · simp [invoke, go_sem, eg]
  · refine (hseq (fun pre W => I pre W ∧ W.heap[w.heap.size + 1]? = some (.loop (rec .ready none)) ∧ W.heap[w.heap.size]? = some (.deferred (some []))) W1 hb1
      (fun pre A B hs hk => ⟨hI pre A B hs.1 hk, (hk.block _ (by omega)).trans hs.2.1, (hk.block _ (by omega)).trans hs.2.2⟩) ?_ ⟨h0 W1 hb1, hL1, hK1⟩).mono ?_
    · rintro pre x W ⟨hi, hl, hk⟩
      have hlt : w.heap.size + 1 < W.heap.size := (Array.getElem?_eq_some_iff.1 hl).1
      have hy := run_yield (P := P) (args := encs x) hl (by rw [hrec]; exact hps x)
      rw [hrec] at hy
      refine ⟨fn, _, assign, body, hy, roundIn_of_wpIn hfn (hassign _ x W _ ⟨_, run_beginRound hl (by rw [hrec]), ?_⟩)⟩
      have hl2 : (W.putObj (w.heap.size + 1) (.loop { rec .ready none with state := .busy })).heap[w.heap.size + 1]? = some (.loop { rec .ready none with state := .busy }) := World.putObj_heap_same hlt
      have hk2 : (W.putObj (w.heap.size + 1) (.loop { rec .ready none with state := .busy })).heap[w.heap.size]? = some (.deferred (some [])) := (World.putObj_heap_other (by omega)).trans hk
      refine wpIn_mono (hbody _ pre x _ (hIp _ _ _ _ (by omega) hi)) ?_
      rintro e a3 W3 ⟨rfl, hi3, hs3, hk3⟩
      have hlt2 : w.heap.size + 1 < (W.putObj (w.heap.size + 1) (.loop { rec .ready none with state := .busy })).heap.size := by simpa using hlt
      have hl3 := (hk3 (w.heap.size + 1) hlt2 (by omega)).trans hl2
      have hr := run_endRound (P := P) none hl3
      refine ⟨_, _, hr, rfl, ⟨hIp _ _ _ _ (by omega) hi3, ?_, (World.putObj_heap_other (by omega)).trans ((hk3 w.heap.size (by simp; omega) (fun h => absurd h (Nat.lt_irrefl _))).trans hk2)⟩, ?_, ?_⟩
      · rw [World.putObj_heap_same (Array.getElem?_eq_some_iff.1 hl3).1, hrec]
        rfl
      · simpa using hs3
      · intro k hkl hkk
        exact (World.putObj_heap_other (by omega)).trans ((hk3 k (by simp; omega) (fun _ => hkk)).trans (World.putObj_heap_other (by omega)))
    · rintro e W2 ⟨⟨v, rfl⟩, hi, hl, hk⟩
      exact ⟨none, _, by have := run_endLoop (P := P) hl (by rw [hrec]; simp); rw [hrec] at this; exact this, hdone _ _ (Nat.le_refl _) (hIp _ _ _ _ (by omega) hi) ((World.putObj_heap_other (by omega)).trans hk)⟩
end
theorem digest_groups.calls (ao : Option Addr) (n c : Nat) (w : World) : Calls Tryz.prog 141 #[.slice ao n c] w fun e w' => e = .returned (.func (.func 165) #[] #[.pointer (some ⟨w.heap.size, 0, none⟩)]) ∧ w' = w.alloc (.cells #[.slice ao n c] 22) := by
  have hu22 := Tryz.underlying22
  go_enter Tryz.func141, Tryz.ntmps141
  go_wp2
  go_ret
  exact ⟨rfl, rfl⟩
theorem BytesAt.moved {W W' : World} {ao : Option Addr} {zs : List Int} (h : BytesAt W ao zs) (hh : ∀ a, ao = some a → W'.heap[a.block]? = W.heap[a.block]?) : BytesAt W' ao zs :=
  ⟨h.1, fun b e j u hj => (World.cell?_of_block (by rw [add_block]; exact hh b e)).trans (h.2 b e j u hj)⟩
theorem BytesAt.cut {W : World} {b : Addr} {zs : List Int} (h : BytesAt W (some b) zs) (q c : Nat) (hc : zs.length ≤ c) : BytesAt W (if c = q then some b else some (b.add q)) (zs.drop q) := by
  split
  · have : zs.drop q = [] := List.drop_eq_nil_of_le (by omega)
    rw [this]
    exact ⟨nofun, fun _ _ _ _ hj => by simp at hj⟩
  · refine ⟨nofun, fun d e j u hj => ?_⟩
    cases e
    have := h.2 b rfl (q + j) u (by rw [← hj]; simp [List.getElem?_drop])
    rwa [show (b.add q).add j = b.add (q + j) by
      by_cases hq0 : q = 0 <;> by_cases hj0 : j = 0 <;> simp [Addr.add, hq0, hj0, Nat.add_assoc]]
def wordOf (zs : List Int) : Nat → Int
  | 0 => 0
  | j + 1 => bits BinOp.or IntKind.u64 (wordOf zs j) (IntKind.u64.wrap (IntKind.u64.wrap (zs.getD j 0) * 2 ^ (8 * j)))
def wordsOf : Nat → List Int → List Int
  | 0, _ => []
  | k + 1, zs => if zs = [] then [] else wordOf zs (min 8 zs.length) :: wordsOf k (zs.drop 8)
set_option maxRecDepth 100000 in
set_option maxHeartbeats 2000000 in
theorem digest_groups_1.gives (F : Fence) (n : Nat) (hF : F.fn 165) (hro : F.round = none) (hn : 1 ≤ n) (l gb lim : Nat) (hgl : gb < lim) (keep : Nat → Prop) (hkg : keep gb) (J : List Int → World → Prop) (hJ : ∀ pre A B, J pre A → ButBox gb A B → J pre B)
    (hY : ∀ pre x W1, J pre W1 → YieldAt F (n - 1) Tryz.prog l #[.int .u64 x] W1 fun e W' => e = .returned (.bool true) ∧ J (pre ++ [x]) W' ∧ W1.heap.size ≤ W'.heap.size ∧ ∀ k, k < lim → keep k → W'.heap[k]? = W1.heap[k]?)
    (ao : Option Addr) (m c : Nat) (zs0 : List Int) (hz : zs0.length = m) (hm : m ≤ 1000000) (hc : m ≤ c) (W : World) (hb : W.heap[gb]? = some (.cells #[.slice ao m c] 22 (0, 0))) (hr : BytesAt W ao zs0) (hal : ∀ a, ao = some a → a.block < lim ∧ keep a.block ∧ a.block ≠ gb) (h0 : J [] W) :
    CallsIn F n Tryz.prog 165 #[.func (.yield l) #[] #[], .pointer (some ⟨gb, 0, none⟩)] W fun e W' => (∃ v, e = .returned v) ∧ J (wordsOf (m + 1) zs0) W' := by
  subst hz
  have hu22 := Tryz.underlying22
  refine callsIn_of_wp Tryz.func165 rfl hF ?_ hro
  simp only [Tryz.ntmps165, List.size_toArray, List.length_cons, List.length_nil, Nat.reduceAdd, Nat.reduceSub, Array.replicate_succ, Array.replicate_zero, List.push_toArray, List.append_toArray, List.nil_append, List.cons_append]
  gi_wp2
  gi_loopw [3, 4] (fun _ _ wr => ∃ (ao : Option Addr) (m c : Nat) (zs pre : List Int) (k : Nat), zs.length = m ∧ m ≤ 1000000 ∧ m ≤ c ∧ m < k ∧ pre ++ wordsOf k zs = wordsOf (zs0.length + 1) zs0 ∧ wr.heap[gb]? = some (.cells #[.slice ao m c] 22 (0, 0)) ∧ BytesAt wr ao zs ∧ (∀ a, ao = some a → a.block < lim ∧ keep a.block ∧ a.block ≠ gb) ∧ J pre wr) (fun _ _ wr => match wr.cell? ⟨gb, 0, none⟩ with | some (.slice _ m _) => m | _ => 0)
  case atStart => exact ⟨ao, _, c, zs0, [], _, rfl, hm, hc, Nat.lt_succ_self _, rfl, hb, hr, hal, h0⟩
  case round =>
    clear hb hr hal h0 hc hm
    obtain ⟨ao, m, c, zs, pre, k, hz, hm, hc, hk, hpre, hb, hr, hal, hJp⟩ := hrel
    have c0 : wr.cell? ⟨gb, 0, none⟩ = some (.slice ao m c) := (blk_cell hb 0).trans rfl
    by_cases hm0 : m = 0
    · subst hm0
      obtain rfl : zs = [] := List.eq_nil_of_length_eq_zero hz
      obtain ⟨k, rfl⟩ : ∃ q, k = q + 1 := ⟨k - 1, by omega⟩
      have hw0 : wordsOf (k + 1) [] = [] := by simp [wordsOf]
      rw [hw0, List.append_nil] at hpre
      have HP := Lib.hid hpre
      clear hpre hr hal
      gi_wp2
      go_end0
      refine ⟨⟨_, rfl⟩, ?_⟩
      rw [← HP.out]
      exact hJp
    · obtain ⟨q, hq⟩ : ∃ q, q = min 8 m := ⟨_, rfl⟩
      have hq8 : q ≤ 8 := by omega
      have hqm : q ≤ m := by omega
      have hq0 : 0 < q := by omega
      have hmn : (if m < 8 then (m : Int) else 8) = (q : Int) := by split <;> omega
      obtain ⟨k, rfl⟩ : ∃ q, k = q + 1 := ⟨k - 1, by omega⟩
      have hzn : zs ≠ [] := by rintro rfl; exact hm0 hz.symm
      have hw1 : wordsOf (k + 1) zs = wordOf zs q :: wordsOf k (zs.drop 8) := by simp only [wordsOf, if_neg hzn, hz, ← hq]
      rw [hw1] at hpre
      clear hw1
      obtain ⟨b, rfl⟩ : ∃ b, ao = some b := by
        cases ao with
        | none => exact absurd (hr.1 rfl) hzn
        | some b => exact ⟨b, rfl⟩
      obtain ⟨fn, tmps, assign, body, hy, hR⟩ := hY pre (wordOf zs q) wr hJp
      have HP := Lib.hid hpre
      have HR := Lib.hid hr
      have HA := Lib.hid hal
      have HJ := Lib.hid hJ
      have HZ := Lib.hid hz
      have HQ := Lib.hid hq
      have hd0 : decide (0 < m) = true := decide_eq_true (by omega)
      clear hpre hr hal hz hq hzn hY hJ
      gi_wp2
      case inl =>
        obtain rfl : q = m := by have := HQ.out; omega
        gi_loopw [4, 17] (fun s4 s17 wr' => ∃ j : Nat, j ≤ q ∧ s4 = .int .u64 (wordOf zs j) ∧ s17 = .int .i64 j ∧ wr' = wr) (fun _ s17 _ => q - (intOf s17).toNat)
        case atStart => exact ⟨0, Nat.zero_le _, rfl, rfl, rfl⟩
        case round =>
          obtain ⟨j, hj, rfl, rfl, hw⟩ := hrel
          subst hw
          by_cases hjq : j < q
          · have hx := HR.out.2 b rfl j (.int .u8 (zs.getD j 0)) (by
              have : j < zs.length := by have := HZ.out; omega
              simp [List.getD_eq_getElem?_getD, List.getElem?_eq_getElem this])
            have hd1 : decide ((j : Int) < (q : Int)) = true := decide_eq_true (by omega)
            have hd2 : (j : Int) < (q : Int) := by omega
            gi_wp2
            refine ⟨⟨j + 1, hjq, ?_, by simp, trivial⟩, by simp [intOf]; omega⟩
            simp [wordOf]
          · obtain rfl : q = j := by omega
            gi_wp2
            refine hR.mono ?_
            rintro e W3 ⟨rfl, hJ3, hs3, hk3⟩
            have hb3 := (hk3 gb hgl hkg).trans hb
            have c3 : W3.cell? ⟨gb, 0, none⟩ = some (.slice (some b) _ c) := (blk_cell hb3 0).trans rfl
            have f3 := blk_frozen hb3 0
            gi_wp2
            have hb4 := blk_set hb3 0 (.slice (if c = q then some b else some (b.add q)) (0) (c - q))
            have c4 := blk_cell hb4 0
            refine ⟨⟨if c = q then some b else some (b.add q), 0, c - q, zs.drop 8, pre ++ [wordOf zs q], k, by have := HZ.out; simp; omega, by omega, by omega, by omega, by rw [List.append_assoc]; exact HP.out, ?_, ?_, ?_, ?_⟩, ?_⟩
            · exact hb4
            · have : zs.drop 8 = [] := List.drop_eq_nil_of_le (by have := HZ.out; omega)
              rw [this]
              exact ⟨fun _ => rfl, fun _ _ _ _ hj => by simp at hj⟩
            · intro a ha
              have : a.block = b.block := by
                split at ha <;> (cases ha; first | rfl | rw [add_block])
              rw [this]
              exact HA.out b rfl
            · exact HJ.out _ _ _ hJ3 (ButBox.setCell gb W3 _)
            · rw [c4, c0]
              simp
              omega
      case inr =>
        obtain rfl : q = 8 := by have := HQ.out; omega
        gi_loopw [4, 17] (fun s4 s17 wr' => ∃ j : Nat, j ≤ 8 ∧ s4 = .int .u64 (wordOf zs j) ∧ s17 = .int .i64 j ∧ wr' = wr) (fun _ s17 _ => 8 - (intOf s17).toNat)
        case atStart => exact ⟨0, Nat.zero_le _, rfl, rfl, rfl⟩
        case round =>
          obtain ⟨j, hj, rfl, rfl, hw⟩ := hrel
          subst hw
          by_cases hjq : j < 8
          · have hx := HR.out.2 b rfl j (.int .u8 (zs.getD j 0)) (by
              have : j < zs.length := by have := HZ.out; omega
              simp [List.getD_eq_getElem?_getD, List.getElem?_eq_getElem this])
            have hd1 : decide ((j : Int) < 8) = true := decide_eq_true (by omega)
            have hd2 : (j : Int) < 8 := by omega
            gi_wp2
            refine ⟨⟨j + 1, hjq, ?_, by simp, trivial⟩, by simp [intOf]; omega⟩
            simp [wordOf]
          · obtain rfl : j = 8 := by omega
            gi_wp2
            refine hR.mono ?_
            rintro e W3 ⟨rfl, hJ3, hs3, hk3⟩
            have hb3 := (hk3 gb hgl hkg).trans hb
            have c3 : W3.cell? ⟨gb, 0, none⟩ = some (.slice (some b) m c) := (blk_cell hb3 0).trans rfl
            have f3 := blk_frozen hb3 0
            gi_wp2
            have ez8 : b.add 8 = { block := b.block, off := b.off + 8 } := by simp [Addr.add]
            have hb4 := blk_set hb3 0 (.slice (if c = 8 then some b else some { block := b.block, off := b.off + 8 }) (m - 8) (c - 8))
            have c4 := blk_cell hb4 0
            refine ⟨⟨if c = 8 then some b else some (b.add 8), m - 8, c - 8, zs.drop 8, pre ++ [wordOf zs 8], k, by have := HZ.out; simp; omega, by omega, by omega, by omega, by rw [List.append_assoc]; exact HP.out, ?_, ?_, ?_, ?_⟩, ?_⟩
            · rw [ez8]
              exact hb4
            · refine BytesAt.cut (BytesAt.moved HR.out ?_) 8 c (by have := HZ.out; omega)
              intro a e
              cases e
              have ha := HA.out b rfl
              exact (Below.heap_setCell _ _ _ _ ha.2.2).trans (hk3 _ ha.1 ha.2.1)
            · intro a ha
              have : a.block = b.block := by
                split at ha <;> (cases ha; first | rfl | rw [add_block])
              rw [this]
              exact HA.out b rfl
            · exact HJ.out _ _ _ hJ3 (ButBox.setCell gb W3 _)
            · rw [c4, c0]
              simp
              omega
attribute [local go_sem] Oper.semAt_some
def digest_Bytes.l (zs : List Int) : Int := digStep ((wordsOf (zs.length + 1) zs).foldl digStep 422944466291) (zs.length : Int)
set_option maxRecDepth 100000 in
set_option maxHeartbeats 4000000 in
theorem digest_Bytes.calls (ao : Option Addr) (m c : Nat) (zs : List Int) (hz : zs.length = m) (hm : m ≤ 1000000) (hc : m ≤ c) (w : World) (hr : BytesAt w ao zs) (hal : ∀ a, ao = some a → a.block < w.heap.size) :
    Calls Tryz.prog 112 #[.slice ao m c] w fun e w' => e = .returned (.int .u64 (digest_Bytes.l zs)) ∧ Below w.heap.size w w' := by
  have hu22 := Tryz.underlying22
  have hu173 := Tryz.underlying173
  have hu205 := Tryz.underlying205
  have HR := Lib.hid hr
  have HA := Lib.hid hal
  have HZ := Lib.hid hz
  clear hr hal
  refine (callsIn_wide (n := 5)).1 ?_
  refine callsIn_of_wp_marks Tryz.func112 rfl trivial ?_ rfl
  simp only [Tryz.ntmps112, List.size_toArray, List.length_cons, List.length_nil, Nat.reduceAdd, Nat.reduceSub, Array.replicate_succ, Array.replicate_zero, List.push_toArray, List.append_toArray, List.nil_append, List.cons_append]
  gi_wp2_with (refine ⟨trivial, ?_⟩; gi_at_call 141; refine (callsIn_wide.2 (digest_groups.calls ao m c _)).mono ?_; rintro e w' ⟨rfl, rfl⟩)
  have BS := blk_alloc (heap_alloc_new w (.cells #[.int .u64 422944466291] 173)) (.cells #[.slice ao m c] 22)
  have BG := heap_alloc_new (w.alloc (.cells #[.int .u64 422944466291] 173)) (.cells #[.slice ao m c] 22)
  have hB := ((Below.refl w.heap.size w).alloc (Nat.le_refl _) (.cells #[.int .u64 422944466291] 173)).alloc (by simp only [World.size_alloc]; omega) (.cells #[.slice ao m c] 22)
  have hW : ((w.alloc (.cells #[.int .u64 422944466291] 173)).alloc (.cells #[.slice ao m c] 22)).heap.size = w.heap.size + 2 := by simp
  simp only [World.size_alloc] at BG
  generalize (w.alloc (.cells #[.int .u64 422944466291] 173)).alloc (.cells #[.slice ao m c] 22) = W at *
  refine wpIn_rangeFunc_box rfl (by omega) (gf := 165) (lb := #[.pointer (some ⟨w.heap.size + 1, 0, none⟩)]) rfl trivial (enters_of Tryz.func165 (by kernel_rfl) rfl) (encs := fun x => #[.int .u64 x]) (fun _ => rfl) (w.heap.size + 1) (by omega) (fun k => k ≠ w.heap.size) (wordsOf (m + 1) zs)
    (fun pre V => V.heap[w.heap.size]? = some (.cells #[.int .u64 (pre.foldl digStep 422944466291)] 173 (0, 0)) ∧ Below w.heap.size w V) ?seq ?hI ?hIp ?h0 (fun x => { tmps := #[.slice ao m c, undef, .int .u64 0, .pointer (some ⟨w.heap.size, 0, none⟩), .int .u64 x, .slice ao m c, .func (.func 165) #[] #[.pointer (some ⟨w.heap.size + 1, 0, none⟩)], .int .u64 x, undef, undef, undef, undef, undef, undef, undef, undef, undef], defers := [] }) ?assign ?body ?done
  case seq =>
    intro J W1 hb1 hJ hY h0
    refine digest_groups_1.gives Fence.wide _ trivial rfl (by omega) _ (w.heap.size + 1) W.heap.size (by omega) (fun k => k ≠ w.heap.size) (by omega) J hJ hY ao m c zs hz hm hc W1 ((hb1.block _ (by omega)).trans BG) (HR.out.moved ?_) ?_ h0
    · intro a e
      have := HA.out a e
      exact (hb1.block _ (by omega)).trans (hB.block _ this)
    · intro a e
      have := HA.out a e
      exact ⟨by omega, by omega, by omega⟩
  case hI =>
    rintro pre A B ⟨h1, h2⟩ hk
    exact ⟨(hk.block _ (by omega)).trans h1, ⟨hk.os.trans h2.os, hk.tape.trans h2.tape, hk.output.trans h2.output, hk.size ▸ h2.size, fun k hkl => (hk.block k (by omega)).trans (h2.block k hkl)⟩⟩
  case hIp =>
    rintro pre V l o hl ⟨h1, h2⟩
    exact ⟨(World.putObj_heap_other (by omega)).trans h1, ⟨h2.os, h2.tape, h2.output, by simpa using h2.size, fun k hkl => (World.putObj_heap_other (by omega)).trans (h2.block k hkl)⟩⟩
  case h0 =>
    intro V hV
    exact ⟨(hV.block _ (by omega)).trans BS, hB.trans (hV.mono (by omega))⟩
  case assign =>
    intro l x V K hK
    gi_wp2
    exact hK
  case body =>
    rintro l pre x V ⟨h1, h2⟩
    have hlt : w.heap.size < V.heap.size := blk_lt h1
    have k0 : (V.alloc (.cells #[.int .u64 x] 133)).cell? ⟨w.heap.size, 0, none⟩ = some (.int .u64 (pre.foldl digStep 422944466291)) := (blk_cell (blk_alloc h1 _) 0).trans rfl
    have k1 : (V.alloc (.cells #[.int .u64 x] 133)).frozen? ⟨w.heap.size, 0, none⟩ = false := blk_frozen (blk_alloc h1 _) 0
    have k2 : (V.alloc (.cells #[.int .u64 x] 133)).cell? ⟨V.heap.size, 0, none⟩ = some (.int .u64 x) := by simp [go_sem]
    have hwp : 1 ≤ 5 - 1 - 1 := by omega
    gi_wp2
    refine ⟨trivial, (CallsIn.inRound l (callsIn_wide.2 (digest_add.one _ _ _ _ _ _ k0 k1 k2))).mono ?_⟩
    rintro e w' ⟨rfl, rfl⟩
    have B5 := blk_set (blk_alloc h1 (.cells #[.int .u64 x] 133)) 0 (.int .u64 (digStep (pre.foldl digStep 422944466291) x))
    have hB2 := below_set (j := 0) (g := w.heap.size) (v := .int .u64 (digStep (pre.foldl digStep 422944466291) x)) (h2.alloc h2.size (.cells #[.int .u64 x] 133)) (Nat.le_refl _)
    have hk2 : ∀ k, k < V.heap.size → (k < W.heap.size → k ≠ w.heap.size) → ((V.alloc (.cells #[.int .u64 x] 133)).setCell ⟨w.heap.size, 0, none⟩ (.int .u64 (digStep (pre.foldl digStep 422944466291) x))).heap[k]? = V.heap[k]? := by
      intro k hk hkk
      have hne : k ≠ w.heap.size := by
        intro e
        subst e
        exact hkk (by omega) rfl
      exact (Below.heap_setCell _ _ _ _ hne).trans (Below.heap_alloc V _ k hk)
    have hs2 : V.heap.size ≤ ((V.alloc (.cells #[.int .u64 x] 133)).setCell ⟨w.heap.size, 0, none⟩ (.int .u64 (digStep (pre.foldl digStep 422944466291) x))).heap.size := by simp
    generalize (V.alloc (.cells #[.int .u64 x] 133)).setCell ⟨w.heap.size, 0, none⟩ (.int .u64 (digStep (pre.foldl digStep 422944466291) x)) = U at *
    have H5 := Lib.hid B5
    have H2 := Lib.hid hB2
    have HK := Lib.hid hk2
    clear B5 hB2 hk2
    gi_wp2
    refine ⟨⟨H5.out, H2.out⟩, ?_⟩
    exact fun k a b => HK.out k a (by rw [hW]; exact b)
  case done =>
    intro D V hD ⟨h1, h2⟩ hK
    have hlt : w.heap.size < V.heap.size := blk_lt h1
    have hDl : D < V.heap.size := (Array.getElem?_eq_some_iff.1 hK).1
    have k0 : (V.alloc (.cells #[.int .u64 (m : Int)] 133)).cell? ⟨w.heap.size, 0, none⟩ = some (.int .u64 ((wordsOf (m + 1) zs).foldl digStep 422944466291)) := (blk_cell (blk_alloc h1 _) 0).trans rfl
    have k1 : (V.alloc (.cells #[.int .u64 (m : Int)] 133)).frozen? ⟨w.heap.size, 0, none⟩ = false := blk_frozen (blk_alloc h1 _) 0
    have k2 : (V.alloc (.cells #[.int .u64 (m : Int)] 133)).cell? ⟨V.heap.size, 0, none⟩ = some (.int .u64 (m : Int)) := by simp [go_sem]
    gi_wp2
    refine ⟨trivial, (callsIn_wide.2 (digest_add.one _ _ _ _ _ _ k0 k1 k2)).mono ?_⟩
    rintro e w' ⟨rfl, rfl⟩
    have B5 := blk_set (blk_alloc h1 (.cells #[.int .u64 (m : Int)] 133)) 0 (.int .u64 (digStep ((wordsOf (m + 1) zs).foldl digStep 422944466291) (m : Int)))
    have k5 := blk_cell B5 0
    have hK2 : (((V.alloc (.cells #[.int .u64 (m : Int)] 133)).setCell ⟨w.heap.size, 0, none⟩ (.int .u64 (digStep ((wordsOf (m + 1) zs).foldl digStep 422944466291) (m : Int))))).heap[D]? = some (.deferred (some [])) := (Below.heap_setCell _ _ _ _ (by show D ≠ w.heap.size; omega)).trans ((Below.heap_alloc V _ D hDl).trans hK)
    have hB2 := below_set (j := 0) (g := w.heap.size) (v := .int .u64 (digStep ((wordsOf (m + 1) zs).foldl digStep 422944466291) (m : Int))) (h2.alloc h2.size (.cells #[.int .u64 (m : Int)] 133)) (Nat.le_refl _)
    generalize (V.alloc (.cells #[.int .u64 (m : Int)] 133)).setCell ⟨w.heap.size, 0, none⟩ (.int .u64 (digStep ((wordsOf (m + 1) zs).foldl digStep 422944466291) (m : Int))) = U at *
    gi_wp2
    refine ⟨by simp, .inl ⟨_, _, rfl, run_takeDeferred hK2, ?_⟩⟩
    refine ⟨_, results_tmp rfl _ _ _, ?_, ?_⟩
    · simp [digest_Bytes.l, HZ.out]
    · exact ⟨hB2.os, hB2.tape, hB2.output, by simpa using hB2.size, fun k hkl => (World.putObj_heap_other (by omega)).trans (hB2.block k hkl)⟩
end Go.Proofs.YteflfnjljjianaaGreatDoor.Qx
namespace Go.Proofs.YteflfnjljjianaaGreatDoor.Qx
open Go.RowKit Go.Proofs.YteflfnjljjianaaGreatDoorW.PrintWords Go.Proofs.YteflfnjljjianaaGreatDoorW.PrintLast Go.Proofs.YteflfnjljjianaaGreatDoorW.PrintMore
attribute [local go_sem] max2_int min2_int max_two min_two
set_option linter.unusedVariables false
set_option linter.unusedSimpArgs false
def bitpack_Zigzag.f (a0 : Int) : Option (Int) := some (Go.bits .xor .u64 (IntKind.u64.wrap ((IntKind.u64.wrap (a0)) * 2)) (IntKind.u64.wrap (a0 / 9223372036854775808)))
set_option maxHeartbeats 8000000 in
set_option maxRecDepth 100000 in
theorem bitpack_Zigzag.calls (a0 : Int) (r : Int) (w : World) (h : bitpack_Zigzag.f a0 = some r) :
    Calls Tryz.prog 145 #[.int .i64 a0] w fun e w' => e = .returned (.int .u64 r) ∧ Drawn0 w w' := by
  have H : (some (Go.bits .xor .u64 (IntKind.u64.wrap ((IntKind.u64.wrap (a0)) * 2)) (IntKind.u64.wrap (a0 / 9223372036854775808)))) = some r := h
  clear h
  obtain rfl := Option.some.inj H
  go_enter Tryz.func145, Tryz.ntmps145
  go_wp2
  go_ret
  exact ⟨by first | rfl | (simp; done) | (simp [*]; done), by repeat (first | exact Drawn0.refl _ | apply Drawn0.step)⟩
end Go.Proofs.YteflfnjljjianaaGreatDoor.Qx
namespace Go.Proofs.YteflfnjljjianaaGreatDoor.Qx
open Go.RowKit Go.Proofs.YteflfnjljjianaaGreatDoorW.PrintWords Go.Proofs.YteflfnjljjianaaGreatDoorW.PrintLast Go.Proofs.YteflfnjljjianaaGreatDoorW.PrintMore
attribute [local go_sem] max2_int min2_int max_two min_two
set_option linter.unusedVariables false
set_option linter.unusedSimpArgs false
theorem ownsRow_cap {w : World} {b : Nat} {e : TypeId} {size : Nat} {A : Addr} {n c m : Nat} {xs : List Value} (h : w.ownsRow b e size (.slice (some A) n c) m xs) : m ≤ c := by
  rcases h.2 with ⟨h, _⟩ | ⟨g, cap, cur, e1, _, _, h2, _⟩
  · cases h
  · cases e1; exact h2
theorem Drawn0.grownBy {w w' : World} (h : Drawn0 w w') : w.grownBy w' none := by
  obtain ⟨n, rfl⟩ := h.out
  exact ⟨rfl, rfl, rfl, Nat.le_refl _, fun _ _ _ => rfl⟩
theorem BytesAt.of_own {w : World} {base : Nat} {e : TypeId} {g n m c : Nat} {xs : List Value} {zs : List Int} (h : w.ownsRow base e 1 (.slice (some ⟨g, 0, none⟩) n c) m xs) (hx : xs = zs.map (.int .u8)) : BytesAt w (some ⟨g, 0, none⟩) zs :=
  ⟨nofun, fun b e j u hj => by cases e; exact h.cells rfl j u (by rw [hx]; exact hj)⟩
def value_Append.l (k i : Int) (s : ByteArray) : List Int :=
  IntKind.u8.wrap k :: (if k = 1 then [i % 256] else if k = 2 then vi 9 ((bitpack_Zigzag.f i).getD 0) else if k = 3 then vi 9 s.size ++ s.data.toList.map (fun b => (b.toNat : Int)) else [])
def value_Append.f (k i : Int) (s : ByteArray) : Option (List Int) := if s.size ≤ 900000 then some (value_Append.l k i s) else none
theorem step_append_string {P : Program} (w : World) {ops : Array Oper} {o : Oper} {a : Act} {K : Act → World → Prop} {Q : Exit → Act → World → Prop} {E : Prop} (hgd : o.guard = none) (s x : Operand) (t u : TypeId)
    (ho : o.op = .call { callee := .builtin .append, args := #[s, x], argTypes := #[t, u] })
    (base : Nat) (e : TypeId) (i : TypeInfo) (ht : P.underlying t = some (.slice e)) (hu : P.underlying u = some .string) (hi : P.info? e = some i) (hz : i.zero = some (.int .u8 0))
    (hsize : i.size = 1) (hby : i.bytes = 1) (v : Value) (n : Nat) (xs : List Value) (hs : a.eval s = v) (hown : w.ownsRow base e 1 v n xs) (st : ByteArray) (hx : a.eval x = .string st)
    (h63 : n + st.size ≤ maxLen) (hbytes : n + st.size ≤ 140737488355328) (hbase : base ≤ w.heap.size)
    (h : ∀ v' w', w'.ownsRow base e 1 v' (n + st.size) (xs ++ Lib.strCells st) → w.grownBy w' v.ownBlock → K (a.put o.dst v') w') :
    if Region.wanted o (yielded ops a.tmps) = true then Oper.wp P o a w K Q else E := by
  have hw : Region.wanted o (yielded ops a.tmps) = true := by simp [Region.wanted, hgd]
  rw [if_pos hw]
  obtain ⟨v', w', hr, h2, h3, h4⟩ := Lib.run_append_own_string (P := P) w base t u o.type e i ht hu hi hz hsize hby v n xs hown st h63 hbytes hbase
  unfold Oper.wp execOp
  simp only [ho, resolve, invoke, builtin, Sem.run_bind, Sem.run_pure, Result.andThen_ok, List.map_toArray, List.map_cons, List.map_nil, hs, hx, hr]
  exact h v' w' h2 h3
theorem zig_lt (i r : Int) (h : bitpack_Zigzag.f i = some r) : 0 ≤ r ∧ r < 18446744073709551616 := by
  obtain rfl := Option.some.inj h
  exact ⟨bits_lo_u64 _ _ _, by have := bits_hi_u64 .xor (IntKind.u64.wrap ((IntKind.u64.wrap i) * 2)) (IntKind.u64.wrap (i / 9223372036854775808)); omega⟩
set_option maxRecDepth 100000 in
set_option maxHeartbeats 2000000 in
theorem value_Append.calls (k i : Int) (s : ByteArray) (r : List Int) (w : World) (h : value_Append.f k i s = some r) :
    Calls Tryz.prog 113 #[.slice none 0 0, .agg #[.int .i64 k, .int .i64 i, .string s]] w fun e w' => ∃ v, e = .returned v ∧ w'.ownsRow w.heap.size 5 1 v r.length (r.map (.int .u8)) ∧ Below w.heap.size w w' := by
  obtain ⟨hs, rfl⟩ : s.size ≤ 900000 ∧ value_Append.l k i s = r := by
    unfold value_Append.f at h
    split at h
    · exact ⟨by assumption, Option.some.inj h⟩
    · exact absurd h (by simp)
  clear h
  have hu22 := Tryz.underlying22
  have hu35 := Tryz.underlying35
  obtain ⟨i0, hi, hz0, hz1, hz2⟩ := info_parts info5
  go_enter Tryz.func113, Tryz.ntmps113
  go_wp2_with fail
  have B3 := heap_alloc_new w (.cells #[.int .i64 k, .int .i64 i, .string s] 35)
  have hB := (Below.refl w.heap.size w).alloc (Nat.le_refl _) (.cells #[.int .i64 k, .int .i64 i, .string s] 35)
  have hW : (w.alloc (.cells #[.int .i64 k, .int .i64 i, .string s] 35)).heap.size = w.heap.size + 1 := by simp
  generalize w.alloc (.cells #[.int .i64 k, .int .i64 i, .string s] 35) = W at *
  have c0 : W.cell? ⟨w.heap.size, 0, none⟩ = some (.int .i64 k) := (blk_cell B3 0).trans rfl
  have d0 : W.drew.cell? ⟨w.heap.size, 0, none⟩ = some (.int .i64 k) := (blk_cell (blk_drew B3) 0).trans rfl
  go_region_held3 (fun w' => w'.cell? ⟨w.heap.size, 0, none⟩ = some (.int .i64 k)) (first
      | go_keep
      | (rw [hgrow.cell_far _ (by simp [hW]; omega) (by simp [Value.ownBlock])]; assumption)) (first
      | (go_at_call 143
         refine (slices_Clip.calls none 0 0 (Nat.le_refl _) _).mono ?_
         rintro e w1 ⟨rfl, hw1⟩
         subst hw1)
      | (refine step_append_lies _ (by rfl) _ _ _ (by rfl) w.heap.size 5 i0 (.int .u8 0) 1 1 Tryz.underlying22 hi hz0 hz1 hz2 rfl (by omega) (.slice none 0 0) 0 [] (by rfl) (World.ownsRow_nil _ _ _ _) ⟨w.heap.size + 1, 0, none⟩ 1 1 [.int .u8 (IntKind.u8.wrap k)] (by rfl) (by rfl) (World.news_of_block (cs := #[.int .u8 (IntKind.u8.wrap k)]) (t := 5) (fr := (0, 0)) (by rw [← hW]; exact blk_drew (heap_alloc_new W _))) (one_oneCell _) (by omega) (by unfold maxLen; omega) (by omega) (by simp [hW]; omega) (W.heap.size + 1) (by simp) ?_
         intro g1 cap1 w1 hown hgrow hat hlt))
  all_goals
    have hB1 := (below_drew1 (hB.alloc hB.size (.cells #[.int .u8 (IntKind.u8.wrap k)] 5))).grown hgrow (by simp [hW]; omega) (fun k h => by cases h)
    have c1 : w1.cell? ⟨w.heap.size, 0, none⟩ = some (.int .i64 k) := by assumption
    have B4 : w1.heap[w.heap.size]? = some (.cells #[.int .i64 k, .int .i64 i, .string s] 35 (0, 0)) := (hgrow.block _ (by simp [hW]; omega) (by simp [Value.ownBlock])).trans (blk_drew (blk_alloc B3 _))
    clear hgrow
    have c2 : w1.cell? ⟨w.heap.size, 1, none⟩ = some (.int .i64 i) := (blk_cell B4 1).trans rfl
    have c3 : w1.cell? ⟨w.heap.size, 2, none⟩ = some (.string s) := (blk_cell B4 2).trans rfl
    by_cases h1 : k = 1
    · subst h1
      go_wp2_with (at_builtin; refine wpList_append_own _ rfl (.tmp 17) (.tmp 21) 22 rfl w.heap.size 5 i0 (.int .u8 0) 1 1 Tryz.underlying22 hi hz0 hz1 hz2 rfl (by decide) _ 1 _ rfl (hown.alloc _) ⟨w1.heap.size, 0, none⟩ 1 1 [.int .u8 (i % 256)] rfl rfl (one_cells w1 5 _) (one_oneCell _) (by unfold maxLen; omega) (by omega) (by simp; exact Nat.le_trans hB1.size (Nat.le_succ _)) ?_; intro v2 w2 hown2 hg2 _)
      go_ret
      exact ⟨_, rfl, by simpa [value_Append.l] using hown2, (hB1.alloc hB1.size _).grown hg2 (by simp; exact Nat.le_trans hB1.size (Nat.le_succ _)) (fun k h => (hown.lt k h).1)⟩
    · have d1 : (k == 1) = false := beq_false_of_ne h1
      by_cases h2 : k = 2
      · subst h2
        obtain ⟨z, hz⟩ : ∃ z, bitpack_Zigzag.f i = some z := ⟨_, rfl⟩
        have hzl := zig_lt i z hz
        have hl : value_Append.l 2 i s = IntKind.u8.wrap 2 :: vi 9 z := by simp [value_Append.l, hz]
        have HL := Lib.hid hl
        have HZ := Lib.hid hz
        clear hz hl
        go_wp2_with fail
        refine (bitpack_Zigzag.calls i z _ HZ.out).mono ?_
        rintro e w2 ⟨rfl, hd⟩
        have hown2 := hown.kept (row := none) (Drawn0.grownBy hd) (.inr (by simp [Value.ownBlock]))
        have hB2 := below_then hB1 hB1.size hd.below
        go_wp2_with fail
        refine (bitpack_Varint.calls (some ⟨g1, 0, none⟩) 1 cap1 [IntKind.u8.wrap 2] rfl (ownsRow_cap hown2) (by decide) (fun h => by cases h) z hzl.1 hzl.2 w2 (BytesAt.of_own hown2 (by simp))).mono ?_
        rintro e w3 ⟨v3, rfl, hown3, hb3⟩
        go_wp2
        go_ret
        exact ⟨_, rfl, by rw [HL.out]; simpa [Nat.add_comm] using ownsRow_lower hown3 hB2.size, below_then hB2 hB2.size hb3⟩
      · have d2 : (k == 2) = false := beq_false_of_ne h2
        by_cases h3 : k = 3
        · subst h3
          have hl : value_Append.l 3 i s = IntKind.u8.wrap 3 :: (vi 9 s.size ++ s.data.toList.map (fun b => (b.toNat : Int))) := by simp [value_Append.l]
          have HL := Lib.hid hl
          have hvi := vi_le 9 (s.size : Int)
          have hwr : IntKind.u64.wrap (s.size : Int) = s.size := by
            simp [IntKind.wrap, IntKind.bits, IntKind.signed]
            omega
          have HW := Lib.hid hwr
          have lt1 : w.heap.size < w1.drew.heap.size := World.block_lt_of_cell? w1 _ c1
          clear hwr
          clear hl
          go_wp2_with fail
          go_region_held3 (fun w' => w'.cell? ⟨w.heap.size, 2, none⟩ = some (.string s)) (first
            | go_keep
            | exact pw_cell_below hb3 (by assumption)
            | exact hg4.cell (by assumption) (fun e => Nat.lt_irrefl _ (Nat.lt_of_lt_of_le lt1 (hown3.lt _ e.symm).1))) (first
            | (go_at_call 144
               rw [HW.out]
               refine (bitpack_Varint.calls (some ⟨g1, 0, none⟩) 1 cap1 [IntKind.u8.wrap 3] rfl (ownsRow_cap hown) (by decide) (fun h => by cases h) (s.size : Int) (by omega) (by omega) _ (BytesAt.of_own (World.ownsRow.drew hown) (by simp))).mono ?_
               rintro e w3 ⟨v3, rfl, hown3, hb3⟩)
            | (refine step_append_string _ (by rfl) _ _ _ _ (by rfl) w.heap.size 5 i0 Tryz.underlying22 Tryz.underlying9 hi hz0 hz1 hz2 v3 (1 + (vi 9 (s.size : Int)).length) _ (by rfl) (ownsRow_lower hown3 hB1.size) s (by rfl) (by unfold maxLen; omega) (by omega) (Nat.le_trans hB1.size hb3.size) ?_
               intro v4 w4 hown4 hg4))
          all_goals
            have hB3 := below_then (below_drew1 hB1) hB1.size hb3
            have hB4 := hB3.grown hg4 hB3.size (fun k h => Nat.le_trans hB1.size (hown3.lt k h).1)
            go_wp2
            go_ret
            exact ⟨_, rfl, by rw [HL.out]; simpa [Nat.add_comm, Nat.add_assoc, Nat.add_left_comm, Lib.strCells, Function.comp_def] using hown4, hB4⟩
        · have d3 : (k == 3) = false := beq_false_of_ne h3
          go_wp2
          go_ret
          exact ⟨_, rfl, by simpa [value_Append.l, h1, h2, h3] using hown, hB1⟩
end Go.Proofs.YteflfnjljjianaaGreatDoor.Qx
namespace Go.Proofs.YteflfnjljjianaaGreatDoor.Qx
open Go.RowKit Go.Proofs.YteflfnjljjianaaGreatDoorW.PrintWords Go.Proofs.YteflfnjljjianaaGreatDoorW.PrintLast Go.Proofs.YteflfnjljjianaaGreatDoorW.PrintMore
attribute [local go_sem] max2_int min2_int max_two min_two
set_option linter.unusedVariables false
set_option linter.unusedSimpArgs false
theorem ownsRow_bytes {w : World} {b : Nat} {e : TypeId} {v : Value} {l : List Int} (h : w.ownsRow b e 1 v l.length (l.map (.int .u8))) : ∃ ao c, v = .slice ao l.length c ∧ l.length ≤ c ∧ BytesAt w ao l ∧ ∀ a, ao = some a → a.block < w.heap.size := by
  rcases h.2 with ⟨rfl, hl⟩ | ⟨g, cap, cur, rfl, hb, hg, hc, _⟩
  · refine ⟨none, 0, by rw [hl], by omega, ⟨fun _ => List.eq_nil_of_length_eq_zero hl, nofun⟩, nofun⟩
  · refine ⟨some ⟨g, 0, none⟩, cap, rfl, hc, BytesAt.of_own h rfl, ?_⟩
    intro a e
    cases e
    exact blk_lt hg
theorem value_Append.le (k i : Int) (s : ByteArray) (l : List Int) (h : value_Append.f k i s = some l) : l.length ≤ 1000000 := by
  unfold value_Append.f at h
  split at h
  · rename_i hs
    obtain rfl := Option.some.inj h
    have h1 := vi_le 9 ((bitpack_Zigzag.f i).getD 0)
    have h2 := vi_le 9 (s.size : Int)
    have h3 : s.data.toList.length = s.size := by simp
    unfold value_Append.l
    simp only [List.length_cons]
    split
    · simp
    · split
      · omega
      · split
        · simp only [List.length_append, List.length_map, h3]; omega
        · simp
  · exact absurd h (by simp)
def partition_spec_bucket.f (_k : Nat) (_a0 _a1 n k i : Int) (s : ByteArray) : Option (Int × Int × ByteArray) :=
  if 1 ≤ n ∧ n ≤ 64 then (value_Append.f k i s).bind fun l => partition_num.f (digest_Bytes.l l % n * 1000000) else none
theorem digStep_range (h x : Int) : 0 ≤ digStep h x ∧ digStep h x < 18446744073709551616 := by
  have := wrap_within .u64 (bits BinOp.xor IntKind.u64 (IntKind.u64.wrap (bits BinOp.xor IntKind.u64 h x * 15485907386658061715)) (IntKind.u64.wrap (bits BinOp.xor IntKind.u64 h x * 15485907386658061715) / 4294967296) * 11562461410679940143)
  have h1 : IntKind.u64.min = 0 := by decide
  have h2 : IntKind.u64.max = 18446744073709551615 := by decide
  unfold digStep
  omega
set_option maxRecDepth 100000 in
set_option maxHeartbeats 4000000 in
theorem partition_spec_bucket.calls (K : Nat) (a0 a1 n k i : Int) (s : ByteArray) (r1 r2 : Int) (r3 : ByteArray) (w : World) (h : partition_spec_bucket.f K a0 a1 n k i s = some (r1, r2, r3)) :
    Calls Tryz.prog 79 #[.agg #[.int .i64 a0, .int .i64 a1, .int .i64 n], .agg #[.int .i64 k, .int .i64 i, .string s]] w fun e w' => e = .returned (.agg #[.int .i64 r1, .int .i64 r2, .string r3]) ∧ Below w.heap.size w w' := by
  obtain ⟨hn, l, hl, hr⟩ : (1 ≤ n ∧ n ≤ 64) ∧ ∃ l, value_Append.f k i s = some l ∧ partition_num.f (digest_Bytes.l l % n * 1000000) = some (r1, r2, r3) := by
    unfold partition_spec_bucket.f at h
    split at h
    · exact ⟨by assumption, Option.bind_eq_some_iff.1 h⟩
    · exact absurd h (by simp)
  have hll := value_Append.le k i s l hl
  obtain ⟨hn1, hn2⟩ := hn
  have hdr := digStep_range ((wordsOf (l.length + 1) l).foldl digStep 422944466291) (l.length : Int)
  have hd : digest_Bytes.l l = digStep ((wordsOf (l.length + 1) l).foldl digStep 422944466291) (l.length : Int) := rfl
  rw [← hd] at hdr
  clear h hd
  generalize hdg : digest_Bytes.l l = d at *
  have HDG := Lib.hid hdg
  have HL := Lib.hid hl
  have HN := Lib.hid hr
  clear hdg hl hr
  have hu106 := Tryz.underlying106
  have hu35 := Tryz.underlying35
  go_enter Tryz.func79, Tryz.ntmps79
  go_wp2_with fail
  have B0 := blk_alloc (blk_alloc (heap_alloc_new w (.cells #[.int .i64 a0, .int .i64 a1, .int .i64 n] 106)) (.cells #[.int .i64 k, .int .i64 i, .string s] 35)) (.cells #[.int .i64 0, .int .i64 0, .string ⟨#[]⟩] 35)
  have B1 := blk_alloc (heap_alloc_new (w.alloc (.cells #[.int .i64 a0, .int .i64 a1, .int .i64 n] 106)) (.cells #[.int .i64 k, .int .i64 i, .string s] 35)) (.cells #[.int .i64 0, .int .i64 0, .string ⟨#[]⟩] 35)
  have B2 := heap_alloc_new ((w.alloc (.cells #[.int .i64 a0, .int .i64 a1, .int .i64 n] 106)).alloc (.cells #[.int .i64 k, .int .i64 i, .string s] 35)) (.cells #[.int .i64 0, .int .i64 0, .string ⟨#[]⟩] 35)
  have hB := (((Below.refl w.heap.size w).alloc (Nat.le_refl _) (.cells #[.int .i64 a0, .int .i64 a1, .int .i64 n] 106)).alloc (by simp only [World.size_alloc]; omega) (.cells #[.int .i64 k, .int .i64 i, .string s] 35)).alloc (by simp only [World.size_alloc]; omega) (.cells #[.int .i64 0, .int .i64 0, .string ⟨#[]⟩] 35)
  simp only [World.size_alloc] at B1 B2
  generalize ((w.alloc (.cells #[.int .i64 a0, .int .i64 a1, .int .i64 n] 106)).alloc (.cells #[.int .i64 k, .int .i64 i, .string s] 35)).alloc (.cells #[.int .i64 0, .int .i64 0, .string ⟨#[]⟩] 35) = W at *
  have keepS : ∀ w' : World, w'.heap[w.heap.size]? = some (.cells #[.int .i64 a0, .int .i64 a1, .int .i64 n] 106 (0, 0)) → w'.heap[w.heap.size + 1]? = some (.cells #[.int .i64 k, .int .i64 i, .string s] 35 (0, 0)) → (w'.cell? ⟨w.heap.size, 2, none⟩ = some (.int .i64 n) ∧ w'.cell? ⟨w.heap.size + 1, 0, none⟩ = some (.int .i64 k) ∧ w'.cell? ⟨w.heap.size + 1, 1, none⟩ = some (.int .i64 i) ∧ w'.cell? ⟨w.heap.size + 1, 2, none⟩ = some (.string s)) := fun w' b0 b1 => ⟨(blk_cell b0 2).trans rfl, (blk_cell b1 0).trans rfl, (blk_cell b1 1).trans rfl, (blk_cell b1 2).trans rfl⟩
  have KS := Lib.hid keepS
  have C0 := Lib.hid (blk_drew B0)
  have C1 := Lib.hid (blk_drew B1)
  have C2 := Lib.hid (blk_drew B2)
  have H0 := Lib.hid B0
  have H1 := Lib.hid B1
  clear keepS B0 B1 B2
  have hwr : IntKind.u64.wrap n = n := by
    simp [IntKind.wrap, IntKind.bits, IntKind.signed]
    omega
  have hw2 : IntKind.i64.wrap (IntKind.i64.wrap (d.tmod n) * 1000000) = d % n * 1000000 := by
    have h1 := Int.emod_nonneg d (show n ≠ 0 by omega)
    have h2 := Int.emod_lt_of_pos d (show 0 < n by omega)
    rw [Int.tmod_eq_emod_of_nonneg hdr.1]
    generalize d % n = q at *
    have hq : IntKind.i64.wrap q = q := by
      simp [IntKind.wrap, IntKind.bits, IntKind.signed]
      omega
    rw [hq]
    simp [IntKind.wrap, IntKind.bits, IntKind.signed]
    omega
  have HW := Lib.hid hw2
  clear hw2
  have hn0 : n ≠ 0 := by omega
  have hn00 : (n == 0) = false := beq_false_of_ne hn0
  go_region_held3 (fun w' => w'.cell? ⟨w.heap.size, 2, none⟩ = some (.int .i64 n) ∧ w'.cell? ⟨w.heap.size + 1, 0, none⟩ = some (.int .i64 k) ∧ w'.cell? ⟨w.heap.size + 1, 1, none⟩ = some (.int .i64 i) ∧ w'.cell? ⟨w.heap.size + 1, 2, none⟩ = some (.string s)) (first
      | (with_reducible exact KS.out _ H0.out H1.out)
      | (with_reducible exact KS.out _ C0.out C1.out)
      | (with_reducible exact KS.out _ D0.out D1.out)
      | (with_reducible exact KS.out _ E0.out E1.out)
      | (with_reducible exact KS.out _ F0.out F1.out)
      | (exact KS.out _ (blk_far (blk_far (blk_far F0.out (by simp only [ne_eq]; omega) _) (by simp only [ne_eq]; omega) _) (by simp only [ne_eq]; omega) _) (blk_far (blk_far (blk_far F1.out (by simp only [ne_eq]; omega) _) (by simp only [ne_eq]; omega) _) (by simp only [ne_eq]; omega) _))) (first
      | (go_at_call 113
         refine (value_Append.calls k i s l _ HL.out).mono ?_
         rintro e w1 ⟨v1, rfl, hown, hb1⟩
         obtain ⟨ao, cc, rfl, hcl, hby, hlt⟩ := ownsRow_bytes hown
         have D0 := Lib.hid (blk_below C0.out hb1)
         have D1 := Lib.hid (blk_below C1.out hb1)
         have D2 := Lib.hid (blk_below C2.out hb1))
      | (go_at_call 112
         refine (digest_Bytes.calls ao l.length cc l rfl hll hcl w1 hby hlt).mono ?_
         rintro e w2 ⟨rfl, hb2⟩
         rw [HDG.out]
         have E0 := Lib.hid (blk_below D0.out hb2)
         have E1 := Lib.hid (blk_below D1.out hb2)
         have E2 := Lib.hid (blk_below D2.out hb2))
      | (go_at_call 111
         rw [HW.out]
         refine (partition_num.calls _ r1 r2 r3 _ HN.out).mono ?_
         rintro e w3 ⟨rfl, hb3⟩
         have F0 := Lib.hid (blk_below E0.out hb3)
         have F1 := Lib.hid (blk_below E1.out hb3)
         have F2 := blk_below E2.out hb3
         have z0 : w3.cell? ⟨w.heap.size + 1 + 1, 0, none⟩ = some (.int .i64 0) := (blk_cell F2 0).trans rfl
         have y0 := blk_frozen F2 0
         have z1 : w3.cell? ⟨w.heap.size + 1 + 1, 1, none⟩ = some (.int .i64 0) := (blk_cell F2 1).trans rfl
         have y1 := blk_frozen F2 1
         have z2 : w3.cell? ⟨w.heap.size + 1 + 1, 2, none⟩ = some (.string ⟨#[]⟩) := (blk_cell F2 2).trans rfl
         have y2 := blk_frozen F2 2))
  all_goals
    have hB3 := below_then (below_then (below_then (below_drew1 hB) hB.size hb1) (Nat.le_trans hB.size hb1.size) hb2) (Nat.le_trans (Nat.le_trans hB.size hb1.size) hb2.size) hb3
    go_wp2
    refine bodyPost_ret (results_cell_row rfl _ _ (w.heap.size + 1 + 1) 35 #[.int .i64 r1, .int .i64 r2, .string r3] (0, 0) _ rfl (by refine blk_put (cs := #[.int .i64 r1, .int .i64 r2, .string ⟨#[]⟩]) ?_ 2 _ rfl; refine blk_put (cs := #[.int .i64 r1, .int .i64 0, .string ⟨#[]⟩]) ?_ 1 _ rfl; refine blk_put (cs := #[.int .i64 0, .int .i64 0, .string ⟨#[]⟩]) ?_ 0 _ rfl; exact F2) Tryz.underlying35 rfl (by kernel_rfl)) rfl ⟨rfl, ?_⟩
    exact below_set (below_set (below_set hB3 (by show w.heap.size ≤ w.heap.size + 1 + 1; omega)) (by show w.heap.size ≤ w.heap.size + 1 + 1; omega)) (by show w.heap.size ≤ w.heap.size + 1 + 1; omega)
end Go.Proofs.YteflfnjljjianaaGreatDoor.Qx
namespace Go.Proofs.YteflfnjljjianaaGreatDoor.Qx
open Go.RowKit Go.Proofs.YteflfnjljjianaaGreatDoorW.PrintWords Go.Proofs.YteflfnjljjianaaGreatDoorW.PrintLast Go.Proofs.YteflfnjljjianaaGreatDoorW.PrintMore
attribute [local go_sem] max2_int min2_int max_two min_two
set_option linter.unusedVariables false
set_option linter.unusedSimpArgs false
def partition_spec_floor.f (a0_0 : Int) (a0_1 : Int) (a0_2 : Int) (a1 : Int) : Option (Int) := if a0_2 = 0 then (none) else (if (Int.tmod a1 a0_2) < 0 then (some (wrap64 ((wrap64 (a1 - (Int.tmod a1 a0_2))) - a0_2))) else (some (wrap64 (a1 - (Int.tmod a1 a0_2)))))
set_option maxHeartbeats 8000000 in
set_option maxRecDepth 100000 in
theorem partition_spec_floor.calls (a0_0 : Int) (a0_1 : Int) (a0_2 : Int) (a1 : Int) (r : Int) (w : World) (h : partition_spec_floor.f a0_0 a0_1 a0_2 a1 = some r) :
    Calls Tryz.prog 114 #[.agg #[.int .i64 a0_0, .int .i64 a0_1, .int .i64 a0_2], .int .i64 a1] w fun e w' => e = .returned (.int .i64 r) ∧ Below w.heap.size w w' := by
  have hu106 := Tryz.underlying106
  have HB := Aside0.mk (Below.refl w.heap.size w)
  have H : (if a0_2 = 0 then (none) else (if (Int.tmod a1 a0_2) < 0 then (some (wrap64 ((wrap64 (a1 - (Int.tmod a1 a0_2))) - a0_2))) else (some (wrap64 (a1 - (Int.tmod a1 a0_2)))))) = some r := h
  clear h
  by_cases c3 : a0_2 = 0
  · rw [if_pos c3] at H
    exact absurd H (by simp)
  · rw [if_neg c3] at H
    have c3b0 : (a0_2 == 0) = false := beq_eq_false_iff_ne.mpr c3
    have c3b1 : (a0_2 != 0) = true := bne_iff_ne.mpr c3
    by_cases c4 : (Int.tmod a1 a0_2) < 0
    · rw [if_pos c4] at H
      have c4b0 : decide ((Int.tmod a1 a0_2) < 0) = true := decide_eq_true c4
      clear c4
      obtain rfl := Option.some.inj H
      go_enter Tryz.func114, Tryz.ntmps114
      go_wp2_with (first | ((with_reducible refine gate_dst (N := 2) rfl ?_); refine box_event ?hg (N := 2) ?hd (cs := #[.int .i64 a0_0, .int .i64 a0_1, .int .i64 a0_2]) (t := 106) ?hr ?_; (case hd => rfl); (case hg => rfl); (case hr => first | (go_simp; done) | (go_simp; rfl)); intro gb101 hg w5 hbox hb; have n0_ := Aside0.mk (below_step (by repeat (first | (with_reducible first | exact HB.out | apply below_alloc | apply pw_below_drewN | apply below_drew1) | exact HB.out)) hb); have n1_ := Aside0.mk (hbox); have n2_ := Aside0.mk ((by rw [hg]; exact (below_size (by repeat (first | (with_reducible first | exact HB.out | apply below_alloc | apply pw_below_drewN | apply below_drew1) | exact HB.out))) : w.heap.size ≤ gb101)); have n3_ := Aside0.mk ((by rw [hg]; exact (below_size (by repeat (first | (with_reducible first | exact HB.out | apply below_alloc | apply pw_below_drewN | apply below_drew1) | exact HB.out))) : w.heap.size ≤ gb101)); clear HB; have HB := n0_; have BK101 := n1_; have GW101 := n2_; have GE101 := n3_; clear n0_ n1_ n2_ n3_; clear hb hbox hg; have hcz6_0 : w5.cell? ⟨gb101, 0, none⟩ = some (.int .i64 a0_0) := (blk_cell BK101.out 0).trans rfl; have hcz6_1 : w5.cell? ⟨gb101, 1, none⟩ = some (.int .i64 a0_1) := (blk_cell BK101.out 1).trans rfl; have hcz6_2 : w5.cell? ⟨gb101, 2, none⟩ = some (.int .i64 a0_2) := (blk_cell BK101.out 2).trans rfl; have hfz6_0 := blk_frozen BK101.out 0; have hfz6_1 := blk_frozen BK101.out 1; have hfz6_2 := blk_frozen BK101.out 2))
      repeat (go_quiet (first | ((with_reducible refine gate_dst (N := 2) rfl ?_); refine box_event ?hg (N := 2) ?hd (cs := #[.int .i64 a0_0, .int .i64 a0_1, .int .i64 a0_2]) (t := 106) ?hr ?_; (case hd => rfl); (case hg => rfl); (case hr => first | (go_simp; done) | (go_simp; rfl)); intro gb101 hg w5 hbox hb; have n0_ := Aside0.mk (below_step (by repeat (first | (with_reducible first | exact HB.out | apply below_alloc | apply pw_below_drewN | apply below_drew1) | exact HB.out)) hb); have n1_ := Aside0.mk (hbox); have n2_ := Aside0.mk ((by rw [hg]; exact (below_size (by repeat (first | (with_reducible first | exact HB.out | apply below_alloc | apply pw_below_drewN | apply below_drew1) | exact HB.out))) : w.heap.size ≤ gb101)); have n3_ := Aside0.mk ((by rw [hg]; exact (below_size (by repeat (first | (with_reducible first | exact HB.out | apply below_alloc | apply pw_below_drewN | apply below_drew1) | exact HB.out))) : w.heap.size ≤ gb101)); clear HB; have HB := n0_; have BK101 := n1_; have GW101 := n2_; have GE101 := n3_; clear n0_ n1_ n2_ n3_; clear hb hbox hg; have hcz6_0 : w5.cell? ⟨gb101, 0, none⟩ = some (.int .i64 a0_0) := (blk_cell BK101.out 0).trans rfl; have hcz6_1 : w5.cell? ⟨gb101, 1, none⟩ = some (.int .i64 a0_1) := (blk_cell BK101.out 1).trans rfl; have hcz6_2 : w5.cell? ⟨gb101, 2, none⟩ = some (.int .i64 a0_2) := (blk_cell BK101.out 2).trans rfl; have hfz6_0 := blk_frozen BK101.out 0; have hfz6_1 := blk_frozen BK101.out 1; have hfz6_2 := blk_frozen BK101.out 2)); try go_wp2_with (first | ((with_reducible refine gate_dst (N := 2) rfl ?_); refine box_event ?hg (N := 2) ?hd (cs := #[.int .i64 a0_0, .int .i64 a0_1, .int .i64 a0_2]) (t := 106) ?hr ?_; (case hd => rfl); (case hg => rfl); (case hr => first | (go_simp; done) | (go_simp; rfl)); intro gb101 hg w5 hbox hb; have n0_ := Aside0.mk (below_step (by repeat (first | (with_reducible first | exact HB.out | apply below_alloc | apply pw_below_drewN | apply below_drew1) | exact HB.out)) hb); have n1_ := Aside0.mk (hbox); have n2_ := Aside0.mk ((by rw [hg]; exact (below_size (by repeat (first | (with_reducible first | exact HB.out | apply below_alloc | apply pw_below_drewN | apply below_drew1) | exact HB.out))) : w.heap.size ≤ gb101)); have n3_ := Aside0.mk ((by rw [hg]; exact (below_size (by repeat (first | (with_reducible first | exact HB.out | apply below_alloc | apply pw_below_drewN | apply below_drew1) | exact HB.out))) : w.heap.size ≤ gb101)); clear HB; have HB := n0_; have BK101 := n1_; have GW101 := n2_; have GE101 := n3_; clear n0_ n1_ n2_ n3_; clear hb hbox hg; have hcz6_0 : w5.cell? ⟨gb101, 0, none⟩ = some (.int .i64 a0_0) := (blk_cell BK101.out 0).trans rfl; have hcz6_1 : w5.cell? ⟨gb101, 1, none⟩ = some (.int .i64 a0_1) := (blk_cell BK101.out 1).trans rfl; have hcz6_2 : w5.cell? ⟨gb101, 2, none⟩ = some (.int .i64 a0_2) := (blk_cell BK101.out 2).trans rfl; have hfz6_0 := blk_frozen BK101.out 0; have hfz6_1 := blk_frozen BK101.out 1; have hfz6_2 := blk_frozen BK101.out 2)))
      go_ret
      exact ⟨by first | rfl | (simp [errW_none, errW_some] <;> rfl) | (simp [*, errW_none, errW_some] <;> rfl), by repeat (first | (with_reducible first | exact HB.out | apply below_alloc | apply pw_below_drewN | apply below_drew1 | refine below_set ?_ GE101.out) | exact HB.out)⟩
    · rw [if_neg c4] at H
      have c4b0 : decide ((Int.tmod a1 a0_2) < 0) = false := decide_eq_false c4
      clear c4
      obtain rfl := Option.some.inj H
      go_enter Tryz.func114, Tryz.ntmps114
      go_wp2_with (first | ((with_reducible refine gate_dst (N := 2) rfl ?_); refine box_event ?hg (N := 2) ?hd (cs := #[.int .i64 a0_0, .int .i64 a0_1, .int .i64 a0_2]) (t := 106) ?hr ?_; (case hd => rfl); (case hg => rfl); (case hr => first | (go_simp; done) | (go_simp; rfl)); intro gb101 hg w7 hbox hb; have n0_ := Aside0.mk (below_step (by repeat (first | (with_reducible first | exact HB.out | apply below_alloc | apply pw_below_drewN | apply below_drew1) | exact HB.out)) hb); have n1_ := Aside0.mk (hbox); have n2_ := Aside0.mk ((by rw [hg]; exact (below_size (by repeat (first | (with_reducible first | exact HB.out | apply below_alloc | apply pw_below_drewN | apply below_drew1) | exact HB.out))) : w.heap.size ≤ gb101)); have n3_ := Aside0.mk ((by rw [hg]; exact (below_size (by repeat (first | (with_reducible first | exact HB.out | apply below_alloc | apply pw_below_drewN | apply below_drew1) | exact HB.out))) : w.heap.size ≤ gb101)); clear HB; have HB := n0_; have BK101 := n1_; have GW101 := n2_; have GE101 := n3_; clear n0_ n1_ n2_ n3_; clear hb hbox hg; have hcz8_0 : w7.cell? ⟨gb101, 0, none⟩ = some (.int .i64 a0_0) := (blk_cell BK101.out 0).trans rfl; have hcz8_1 : w7.cell? ⟨gb101, 1, none⟩ = some (.int .i64 a0_1) := (blk_cell BK101.out 1).trans rfl; have hcz8_2 : w7.cell? ⟨gb101, 2, none⟩ = some (.int .i64 a0_2) := (blk_cell BK101.out 2).trans rfl; have hfz8_0 := blk_frozen BK101.out 0; have hfz8_1 := blk_frozen BK101.out 1; have hfz8_2 := blk_frozen BK101.out 2))
      repeat (go_quiet (first | ((with_reducible refine gate_dst (N := 2) rfl ?_); refine box_event ?hg (N := 2) ?hd (cs := #[.int .i64 a0_0, .int .i64 a0_1, .int .i64 a0_2]) (t := 106) ?hr ?_; (case hd => rfl); (case hg => rfl); (case hr => first | (go_simp; done) | (go_simp; rfl)); intro gb101 hg w7 hbox hb; have n0_ := Aside0.mk (below_step (by repeat (first | (with_reducible first | exact HB.out | apply below_alloc | apply pw_below_drewN | apply below_drew1) | exact HB.out)) hb); have n1_ := Aside0.mk (hbox); have n2_ := Aside0.mk ((by rw [hg]; exact (below_size (by repeat (first | (with_reducible first | exact HB.out | apply below_alloc | apply pw_below_drewN | apply below_drew1) | exact HB.out))) : w.heap.size ≤ gb101)); have n3_ := Aside0.mk ((by rw [hg]; exact (below_size (by repeat (first | (with_reducible first | exact HB.out | apply below_alloc | apply pw_below_drewN | apply below_drew1) | exact HB.out))) : w.heap.size ≤ gb101)); clear HB; have HB := n0_; have BK101 := n1_; have GW101 := n2_; have GE101 := n3_; clear n0_ n1_ n2_ n3_; clear hb hbox hg; have hcz8_0 : w7.cell? ⟨gb101, 0, none⟩ = some (.int .i64 a0_0) := (blk_cell BK101.out 0).trans rfl; have hcz8_1 : w7.cell? ⟨gb101, 1, none⟩ = some (.int .i64 a0_1) := (blk_cell BK101.out 1).trans rfl; have hcz8_2 : w7.cell? ⟨gb101, 2, none⟩ = some (.int .i64 a0_2) := (blk_cell BK101.out 2).trans rfl; have hfz8_0 := blk_frozen BK101.out 0; have hfz8_1 := blk_frozen BK101.out 1; have hfz8_2 := blk_frozen BK101.out 2)); try go_wp2_with (first | ((with_reducible refine gate_dst (N := 2) rfl ?_); refine box_event ?hg (N := 2) ?hd (cs := #[.int .i64 a0_0, .int .i64 a0_1, .int .i64 a0_2]) (t := 106) ?hr ?_; (case hd => rfl); (case hg => rfl); (case hr => first | (go_simp; done) | (go_simp; rfl)); intro gb101 hg w7 hbox hb; have n0_ := Aside0.mk (below_step (by repeat (first | (with_reducible first | exact HB.out | apply below_alloc | apply pw_below_drewN | apply below_drew1) | exact HB.out)) hb); have n1_ := Aside0.mk (hbox); have n2_ := Aside0.mk ((by rw [hg]; exact (below_size (by repeat (first | (with_reducible first | exact HB.out | apply below_alloc | apply pw_below_drewN | apply below_drew1) | exact HB.out))) : w.heap.size ≤ gb101)); have n3_ := Aside0.mk ((by rw [hg]; exact (below_size (by repeat (first | (with_reducible first | exact HB.out | apply below_alloc | apply pw_below_drewN | apply below_drew1) | exact HB.out))) : w.heap.size ≤ gb101)); clear HB; have HB := n0_; have BK101 := n1_; have GW101 := n2_; have GE101 := n3_; clear n0_ n1_ n2_ n3_; clear hb hbox hg; have hcz8_0 : w7.cell? ⟨gb101, 0, none⟩ = some (.int .i64 a0_0) := (blk_cell BK101.out 0).trans rfl; have hcz8_1 : w7.cell? ⟨gb101, 1, none⟩ = some (.int .i64 a0_1) := (blk_cell BK101.out 1).trans rfl; have hcz8_2 : w7.cell? ⟨gb101, 2, none⟩ = some (.int .i64 a0_2) := (blk_cell BK101.out 2).trans rfl; have hfz8_0 := blk_frozen BK101.out 0; have hfz8_1 := blk_frozen BK101.out 1; have hfz8_2 := blk_frozen BK101.out 2)))
      go_ret
      exact ⟨by first | rfl | (simp [errW_none, errW_some] <;> rfl) | (simp [*, errW_none, errW_some] <;> rfl), by repeat (first | (with_reducible first | exact HB.out | apply below_alloc | apply pw_below_drewN | apply below_drew1 | refine below_set ?_ GE101.out) | exact HB.out)⟩
end Go.Proofs.YteflfnjljjianaaGreatDoor.Qx
namespace Go.Proofs.YteflfnjljjianaaGreatDoor.Qx
open Go.RowKit Go.Proofs.YteflfnjljjianaaGreatDoorW.PrintWords Go.Proofs.YteflfnjljjianaaGreatDoorW.PrintLast Go.Proofs.YteflfnjljjianaaGreatDoorW.PrintMore
attribute [local go_sem] max2_int min2_int max_two min_two
set_option linter.unusedVariables false
set_option linter.unusedSimpArgs false
def partition_str.f (a0 : ByteArray) : Option (Int × Int × ByteArray) := some (3, 0, a0)
set_option maxHeartbeats 8000000 in
set_option maxRecDepth 100000 in
theorem partition_str.calls (a0 : ByteArray) (r1 : Int) (r2 : Int) (r3 : ByteArray) (w : World) (h : partition_str.f a0 = some (r1, r2, r3)) :
    Calls Tryz.prog 115 #[.string a0] w fun e w' => e = .returned (.agg #[.int .i64 r1, .int .i64 r2, .string r3]) ∧ Below w.heap.size w w' := by
  have hu35 := Tryz.underlying35
  have HB := Aside0.mk (Below.refl w.heap.size w)
  have H : (some (3, 0, a0)) = some (r1, r2, r3) := h
  clear h
  simp only [Option.some.injEq, Prod.mk.injEq] at H
  obtain ⟨rfl, rfl, rfl⟩ := H
  go_enter Tryz.func115, Tryz.ntmps115
  go_wp2_with (first | ((with_reducible refine gate_dst (N := 2) rfl ?_); refine box_event ?hg (N := 2) ?hd (cs := #[.int .i64 0, .int .i64 0, .string (⟨#[]⟩ : ByteArray)]) (t := 35) ?hr ?_; (case hd => rfl); (case hg => rfl); (case hr => first | (go_simp; done) | (go_simp; rfl)); intro gb101 hg w2 hbox hb; have n0_ := Aside0.mk (below_step (by repeat (first | (with_reducible first | exact HB.out | apply below_alloc | apply pw_below_drewN | apply below_drew1) | exact HB.out)) hb); have n1_ := Aside0.mk (hbox); have n2_ := Aside0.mk ((by rw [hg]; exact (below_size (by repeat (first | (with_reducible first | exact HB.out | apply below_alloc | apply pw_below_drewN | apply below_drew1) | exact HB.out))) : w.heap.size ≤ gb101)); have n3_ := Aside0.mk ((by rw [hg]; exact (below_size (by repeat (first | (with_reducible first | exact HB.out | apply below_alloc | apply pw_below_drewN | apply below_drew1) | exact HB.out))) : w.heap.size ≤ gb101)); clear HB; have HB := n0_; have BK101 := n1_; have GW101 := n2_; have GE101 := n3_; clear n0_ n1_ n2_ n3_; clear hb hbox hg; have hcz3_0 : w2.cell? ⟨gb101, 0, none⟩ = some (.int .i64 0) := (blk_cell BK101.out 0).trans rfl; have hcz3_1 : w2.cell? ⟨gb101, 1, none⟩ = some (.int .i64 0) := (blk_cell BK101.out 1).trans rfl; have hcz3_2 : w2.cell? ⟨gb101, 2, none⟩ = some (.string (⟨#[]⟩ : ByteArray)) := (blk_cell BK101.out 2).trans rfl; have hfz3_0 := blk_frozen BK101.out 0; have hfz3_1 := blk_frozen BK101.out 1; have hfz3_2 := blk_frozen BK101.out 2))
  refine bodyPost_ret (results_cell_row rfl _ _ gb101 35 #[.int .i64 3, .int .i64 0, .string a0] (0, 0) _ rfl (by (with_reducible repeat (first | refine blk_drewN ?_ _ | refine blk_drew ?_ | refine blk_alloc ?_ _)); refine blk_put (cs := #[.int .i64 3, .int .i64 0, .string (⟨#[]⟩ : ByteArray)]) ?_ 2 _ rfl; (with_reducible repeat (first | refine blk_drewN ?_ _ | refine blk_drew ?_ | refine blk_alloc ?_ _)); refine blk_put (cs := #[.int .i64 3, .int .i64 0, .string (⟨#[]⟩ : ByteArray)]) ?_ 1 _ rfl; (with_reducible repeat (first | refine blk_drewN ?_ _ | refine blk_drew ?_ | refine blk_alloc ?_ _)); refine blk_put (cs := #[.int .i64 0, .int .i64 0, .string (⟨#[]⟩ : ByteArray)]) ?_ 0 _ rfl; (with_reducible repeat (first | refine blk_drewN ?_ _ | refine blk_drew ?_ | refine blk_alloc ?_ _)); exact BK101.out) Tryz.underlying35 rfl (by kernel_rfl)) rfl ?_
  exact ⟨by first | rfl | (simp [errW_none, errW_some] <;> rfl) | (simp [*, errW_none, errW_some] <;> rfl), by repeat (first | (with_reducible first | exact HB.out | apply below_alloc | apply pw_below_drewN | apply below_drew1 | refine below_set ?_ GE101.out) | exact HB.out)⟩
end Go.Proofs.YteflfnjljjianaaGreatDoor.Qx
namespace Go.Proofs.YteflfnjljjianaaGreatDoor.Qx
open Go.RowKit Go.Proofs.YteflfnjljjianaaGreatDoorW.PrintWords Go.Proofs.YteflfnjljjianaaGreatDoorW.PrintLast Go.Proofs.YteflfnjljjianaaGreatDoorW.PrintMore
attribute [local go_sem] max2_int min2_int max_two min_two
set_option linter.unusedVariables false
set_option linter.unusedSimpArgs false
def partition_spec_trunc.f (a0_0 : Int) (a0_1 : Int) (a0_2 : Int) (a1_0 : Int) (a1_1 : Int) (a1_2 : ByteArray) : Option (Int × Int × ByteArray) := if a1_0 = 2 then ((partition_spec_floor.f a0_0 a0_1 a0_2 a1_1).bind fun t104 => ((partition_num.f (mx t104 (-4000000000000000000))).bind fun bt105 => (some (bt105.1, bt105.2.1, bt105.2.2)))) else (if 0 ≤ (mn a0_2 (a1_2.size : Int)) then (if (mn a0_2 (a1_2.size : Int)) ≤ (a1_2.size : Int) then ((partition_str.f (a1_2.extract 0 ((mn a0_2 (a1_2.size : Int)) : Int).toNat)).bind fun bt108 => (some (bt108.1, bt108.2.1, bt108.2.2))) else (none)) else (none))
set_option maxHeartbeats 8000000 in
set_option maxRecDepth 100000 in
theorem partition_spec_trunc.calls (a0_0 : Int) (a0_1 : Int) (a0_2 : Int) (a1_0 : Int) (a1_1 : Int) (a1_2 : ByteArray) (r1 : Int) (r2 : Int) (r3 : ByteArray) (w : World) (h : partition_spec_trunc.f a0_0 a0_1 a0_2 a1_0 a1_1 a1_2 = some (r1, r2, r3)) :
    Calls Tryz.prog 82 #[.agg #[.int .i64 a0_0, .int .i64 a0_1, .int .i64 a0_2], .agg #[.int .i64 a1_0, .int .i64 a1_1, .string a1_2]] w fun e w' => e = .returned (.agg #[.int .i64 r1, .int .i64 r2, .string r3]) ∧ Below w.heap.size w w' := by
  have hu106 := Tryz.underlying106
  have hu35 := Tryz.underlying35
  have HB := Aside0.mk (Below.refl w.heap.size w)
  have H : (if a1_0 = 2 then ((partition_spec_floor.f a0_0 a0_1 a0_2 a1_1).bind fun t104 => ((partition_num.f (mx t104 (-4000000000000000000))).bind fun bt105 => (some (bt105.1, bt105.2.1, bt105.2.2)))) else (if 0 ≤ (mn a0_2 (a1_2.size : Int)) then (if (mn a0_2 (a1_2.size : Int)) ≤ (a1_2.size : Int) then ((partition_str.f (a1_2.extract 0 ((mn a0_2 (a1_2.size : Int)) : Int).toNat)).bind fun bt108 => (some (bt108.1, bt108.2.1, bt108.2.2))) else (none)) else (none))) = some (r1, r2, r3) := h
  clear h
  by_cases c3 : a1_0 = 2
  · rw [if_pos c3] at H
    have c3b0 : (a1_0 == 2) = true := beq_iff_eq.mpr c3
    have c3b1 : (a1_0 != 2) = false := bne_eq_false_iff_eq.mpr c3
    clear c3
    replace H := Option.bind_eq_some_iff.mp H
    obtain ⟨t104, A40, H⟩ := H
    replace H : ((partition_num.f (mx t104 (-4000000000000000000))).bind fun bt105 => (some (bt105.1, bt105.2.1, bt105.2.2))) = some (r1, r2, r3) := H
    have A4 := Aside0.mk A40
    clear A40
    obtain ⟨ji5, hji5⟩ : ∃ j_ : Int, (mx t104 (-4000000000000000000)) = j_ := ⟨_, rfl⟩
    replace H : ((partition_num.f (ji5)).bind fun bt105 => (some (bt105.1, bt105.2.1, bt105.2.2))) = some (r1, r2, r3) := by first | (rw [hji5] at H; exact H) | (simp only [hji5] at H ⊢; exact H)
    (try rw [hji5] at A4)
    have hji5_ : (if t104 < (-4000000000000000000) then (-4000000000000000000) else t104) = ji5 := hji5
    replace H := Option.bind_eq_some_iff.mp H
    obtain ⟨⟨t105, t106, t107⟩, A60, H⟩ := H
    replace H : (some (t105, t106, t107)) = some (r1, r2, r3) := H
    have A6 := Aside0.mk A60
    clear A60
    simp only [Option.some.injEq, Prod.mk.injEq] at H
    obtain ⟨rfl, rfl, rfl⟩ := H
    go_enter Tryz.func82, Tryz.ntmps82
    go_wp2_with (first | ((with_reducible refine gate_dst (N := 2) rfl ?_); refine box_event ?hg (N := 2) ?hd (cs := #[.int .i64 a0_0, .int .i64 a0_1, .int .i64 a0_2]) (t := 106) ?hr ?_; (case hd => rfl); (case hg => rfl); (case hr => first | (go_simp; done) | (go_simp; rfl)); intro gb101 hg w7 hbox hb; have n0_ := Aside0.mk (below_step (by repeat (first | (with_reducible first | exact HB.out | apply below_alloc | apply pw_below_drewN | apply below_drew1) | exact HB.out)) hb); have n1_ := Aside0.mk (hbox); have n2_ := Aside0.mk ((by rw [hg]; exact (below_size (by repeat (first | (with_reducible first | exact HB.out | apply below_alloc | apply pw_below_drewN | apply below_drew1) | exact HB.out))) : w.heap.size ≤ gb101)); have n3_ := Aside0.mk ((by rw [hg]; exact (below_size (by repeat (first | (with_reducible first | exact HB.out | apply below_alloc | apply pw_below_drewN | apply below_drew1) | exact HB.out))) : w.heap.size ≤ gb101)); clear HB; have HB := n0_; have BK101 := n1_; have GW101 := n2_; have GE101 := n3_; clear n0_ n1_ n2_ n3_; clear hb hbox hg) | ((with_reducible refine gate_dst (N := 3) rfl ?_); refine box_event ?hg (N := 3) ?hd (cs := #[.int .i64 a1_0, .int .i64 a1_1, .string a1_2]) (t := 35) ?hr ?_; (case hd => rfl); (case hg => rfl); (case hr => first | (go_simp; done) | (go_simp; rfl)); intro gb102 hg w8 hbox hb; have n0_ := Aside0.mk (blk_below (g := gb101) (o := .cells #[.int .i64 a0_0, .int .i64 a0_1, .int .i64 a0_2] 106 (0, 0)) (by (with_reducible repeat (first | refine blk_drewN ?_ _ | refine blk_drew ?_ | refine blk_alloc ?_ _)); exact BK101.out) hb); have n1_ := Aside0.mk (below_step (by repeat (first | (with_reducible first | exact HB.out | apply below_alloc | apply pw_below_drewN | apply below_drew1 | refine below_set ?_ GE101.out) | exact HB.out)) hb); have n2_ := Aside0.mk (hbox); have n3_ := Aside0.mk ((by rw [hg]; exact (below_size (by repeat (first | (with_reducible first | exact HB.out | apply below_alloc | apply pw_below_drewN | apply below_drew1 | refine below_set ?_ GE101.out) | exact HB.out))) : w.heap.size ≤ gb102)); have n4_ := Aside0.mk ((by rw [hg]; exact (below_size (by repeat (first | (with_reducible first | exact HB.out | apply below_alloc | apply pw_below_drewN | apply below_drew1 | refine below_set ?_ GE101.out) | exact HB.out))) : w.heap.size ≤ gb102)); have n5_ := Aside0.mk ((by rw [hg]; exact Nat.ne_of_lt (blk_lt (g := gb101) (o := .cells #[.int .i64 a0_0, .int .i64 a0_1, .int .i64 a0_2] 106 (0, 0)) (by (with_reducible repeat (first | refine blk_drewN ?_ _ | refine blk_drew ?_ | refine blk_alloc ?_ _)); exact BK101.out)) : gb101 ≠ gb102)); have n6_ := Aside0.mk ((by rw [hg]; exact Nat.ne_of_gt (blk_lt (g := gb101) (o := .cells #[.int .i64 a0_0, .int .i64 a0_1, .int .i64 a0_2] 106 (0, 0)) (by (with_reducible repeat (first | refine blk_drewN ?_ _ | refine blk_drew ?_ | refine blk_alloc ?_ _)); exact BK101.out)) : gb102 ≠ gb101)); clear BK101; clear HB; have BK101 := n0_; have HB := n1_; have BK102 := n2_; have GW102 := n3_; have GE102 := n4_; have NB101_102 := n5_; have NB102_101 := n6_; clear n0_ n1_ n2_ n3_ n4_ n5_ n6_; clear hb hbox hg) | ((with_reducible refine gate_dst (N := 4) rfl ?_); refine box_event ?hg (N := 4) ?hd (cs := #[.int .i64 0, .int .i64 0, .string (⟨#[]⟩ : ByteArray)]) (t := 35) ?hr ?_; (case hd => rfl); (case hg => rfl); (case hr => first | (go_simp; done) | (go_simp; rfl)); intro gb103 hg w9 hbox hb; have n0_ := Aside0.mk (blk_below (g := gb101) (o := .cells #[.int .i64 a0_0, .int .i64 a0_1, .int .i64 a0_2] 106 (0, 0)) (by (with_reducible repeat (first | refine blk_drewN ?_ _ | refine blk_drew ?_ | refine blk_alloc ?_ _)); exact BK101.out) hb); have n1_ := Aside0.mk (blk_below (g := gb102) (o := .cells #[.int .i64 a1_0, .int .i64 a1_1, .string a1_2] 35 (0, 0)) (by (with_reducible repeat (first | refine blk_drewN ?_ _ | refine blk_drew ?_ | refine blk_alloc ?_ _)); exact BK102.out) hb); have n2_ := Aside0.mk (below_step (by repeat (first | (with_reducible first | exact HB.out | apply below_alloc | apply pw_below_drewN | apply below_drew1 | refine below_set ?_ GE101.out | refine below_set ?_ GE102.out) | exact HB.out)) hb); have n3_ := Aside0.mk (hbox); have n4_ := Aside0.mk ((by rw [hg]; exact (below_size (by repeat (first | (with_reducible first | exact HB.out | apply below_alloc | apply pw_below_drewN | apply below_drew1 | refine below_set ?_ GE101.out | refine below_set ?_ GE102.out) | exact HB.out))) : w.heap.size ≤ gb103)); have n5_ := Aside0.mk ((by rw [hg]; exact (below_size (by repeat (first | (with_reducible first | exact HB.out | apply below_alloc | apply pw_below_drewN | apply below_drew1 | refine below_set ?_ GE101.out | refine below_set ?_ GE102.out) | exact HB.out))) : w.heap.size ≤ gb103)); have n6_ := Aside0.mk ((by rw [hg]; exact Nat.ne_of_lt (blk_lt (g := gb101) (o := .cells #[.int .i64 a0_0, .int .i64 a0_1, .int .i64 a0_2] 106 (0, 0)) (by (with_reducible repeat (first | refine blk_drewN ?_ _ | refine blk_drew ?_ | refine blk_alloc ?_ _)); exact BK101.out)) : gb101 ≠ gb103)); have n7_ := Aside0.mk ((by rw [hg]; exact Nat.ne_of_gt (blk_lt (g := gb101) (o := .cells #[.int .i64 a0_0, .int .i64 a0_1, .int .i64 a0_2] 106 (0, 0)) (by (with_reducible repeat (first | refine blk_drewN ?_ _ | refine blk_drew ?_ | refine blk_alloc ?_ _)); exact BK101.out)) : gb103 ≠ gb101)); have n8_ := Aside0.mk ((by rw [hg]; exact Nat.ne_of_lt (blk_lt (g := gb102) (o := .cells #[.int .i64 a1_0, .int .i64 a1_1, .string a1_2] 35 (0, 0)) (by (with_reducible repeat (first | refine blk_drewN ?_ _ | refine blk_drew ?_ | refine blk_alloc ?_ _)); exact BK102.out)) : gb102 ≠ gb103)); have n9_ := Aside0.mk ((by rw [hg]; exact Nat.ne_of_gt (blk_lt (g := gb102) (o := .cells #[.int .i64 a1_0, .int .i64 a1_1, .string a1_2] 35 (0, 0)) (by (with_reducible repeat (first | refine blk_drewN ?_ _ | refine blk_drew ?_ | refine blk_alloc ?_ _)); exact BK102.out)) : gb103 ≠ gb102)); clear BK101; clear BK102; clear HB; have BK101 := n0_; have BK102 := n1_; have HB := n2_; have BK103 := n3_; have GW103 := n4_; have GE103 := n5_; have NB101_103 := n6_; have NB103_101 := n7_; have NB102_103 := n8_; have NB103_102 := n9_; clear n0_ n1_ n2_ n3_ n4_ n5_ n6_ n7_ n8_ n9_; clear hb hbox hg; have hnb10 := NB102_101.out; have hnc10 := NB101_102.out; have hnb11 := NB102_103.out; have hnc11 := NB103_102.out; have hcz12_0 : w9.cell? ⟨gb102, 0, none⟩ = some (.int .i64 a1_0) := (blk_cell BK102.out 0).trans rfl; have hcz12_1 : w9.cell? ⟨gb102, 1, none⟩ = some (.int .i64 a1_1) := (blk_cell BK102.out 1).trans rfl; have hcz12_2 : w9.cell? ⟨gb102, 2, none⟩ = some (.string a1_2) := (blk_cell BK102.out 2).trans rfl; have hfz12_0 := blk_frozen BK102.out 0; have hfz12_1 := blk_frozen BK102.out 1; have hfz12_2 := blk_frozen BK102.out 2; have hnb13 := NB101_103.out; have hnc13 := NB103_101.out; have hcz14_0 : w9.cell? ⟨gb101, 0, none⟩ = some (.int .i64 a0_0) := (blk_cell BK101.out 0).trans rfl; have hcz14_1 : w9.cell? ⟨gb101, 1, none⟩ = some (.int .i64 a0_1) := (blk_cell BK101.out 1).trans rfl; have hcz14_2 : w9.cell? ⟨gb101, 2, none⟩ = some (.int .i64 a0_2) := (blk_cell BK101.out 2).trans rfl; have hfz14_0 := blk_frozen BK101.out 0; have hfz14_1 := blk_frozen BK101.out 1; have hfz14_2 := blk_frozen BK101.out 2) | ((with_reducible refine gate_callee (f := 114) rfl ?_); refine goesL_ (some 11) rfl rfl Tryz.func114 (by kernel_rfl) rfl #[.agg #[.int .i64 a0_0, .int .i64 a0_1, .int .i64 a0_2], .int .i64 a1_1] rfl (by (try simp only [List.map_toArray, List.map_cons, List.map_nil]); first | done | rfl | (simp only [List.length_drop, List.length_take]; rfl)) ?_; (with_reducible refine (partition_spec_floor.calls a0_0 a0_1 a0_2 a1_1 t104 _ A4.out).mono ?_); rintro e w15 ⟨rfl, hb⟩; refine ⟨_, rfl, ?_⟩; have n0_ := Aside0.mk (blk_below (g := gb101) (o := .cells #[.int .i64 a0_0, .int .i64 a0_1, .int .i64 a0_2] 106 (0, 0)) (by (with_reducible repeat (first | refine blk_drewN ?_ _ | refine blk_drew ?_ | refine blk_alloc ?_ _)); exact BK101.out) hb); have n1_ := Aside0.mk (blk_below (g := gb102) (o := .cells #[.int .i64 a1_0, .int .i64 a1_1, .string a1_2] 35 (0, 0)) (by (with_reducible repeat (first | refine blk_drewN ?_ _ | refine blk_drew ?_ | refine blk_alloc ?_ _)); exact BK102.out) hb); have n2_ := Aside0.mk (blk_below (g := gb103) (o := .cells #[.int .i64 0, .int .i64 0, .string (⟨#[]⟩ : ByteArray)] 35 (0, 0)) (by (with_reducible repeat (first | refine blk_drewN ?_ _ | refine blk_drew ?_ | refine blk_alloc ?_ _)); exact BK103.out) hb); have n3_ := Aside0.mk (below_step (by repeat (first | (with_reducible first | exact HB.out | apply below_alloc | apply pw_below_drewN | apply below_drew1 | refine below_set ?_ GE101.out | refine below_set ?_ GE102.out | refine below_set ?_ GE103.out) | exact HB.out)) hb); clear BK101; clear BK102; clear BK103; clear HB; have BK101 := n0_; have BK102 := n1_; have BK103 := n2_; have HB := n3_; clear n0_ n1_ n2_ n3_; (try clear hb); (try clear hb2); (try clear hk); (try clear hi)) | ((with_reducible refine gate_callee (f := 111) rfl ?_); refine goesL_ (some 13) rfl rfl Tryz.func111 (by kernel_rfl) rfl #[.int .i64 ji5] rfl (by (try simp only [List.map_toArray, List.map_cons, List.map_nil]); first | done | (simp only [hji5]; rfl) | rfl | (simp only [List.length_drop, List.length_take]; rfl)) ?_; (with_reducible refine (partition_num.calls ji5 t105 t106 t107 _ A6.out).mono ?_); rintro e w16 ⟨rfl, hb⟩; refine ⟨_, rfl, ?_⟩; have n0_ := Aside0.mk (blk_below (g := gb101) (o := .cells #[.int .i64 a0_0, .int .i64 a0_1, .int .i64 a0_2] 106 (0, 0)) (by (with_reducible repeat (first | refine blk_drewN ?_ _ | refine blk_drew ?_ | refine blk_alloc ?_ _)); exact BK101.out) hb); have n1_ := Aside0.mk (blk_below (g := gb102) (o := .cells #[.int .i64 a1_0, .int .i64 a1_1, .string a1_2] 35 (0, 0)) (by (with_reducible repeat (first | refine blk_drewN ?_ _ | refine blk_drew ?_ | refine blk_alloc ?_ _)); exact BK102.out) hb); have n2_ := Aside0.mk (blk_below (g := gb103) (o := .cells #[.int .i64 0, .int .i64 0, .string (⟨#[]⟩ : ByteArray)] 35 (0, 0)) (by (with_reducible repeat (first | refine blk_drewN ?_ _ | refine blk_drew ?_ | refine blk_alloc ?_ _)); exact BK103.out) hb); have n3_ := Aside0.mk (below_step (by repeat (first | (with_reducible first | exact HB.out | apply below_alloc | apply pw_below_drewN | apply below_drew1 | refine below_set ?_ GE101.out | refine below_set ?_ GE102.out | refine below_set ?_ GE103.out) | exact HB.out)) hb); clear BK101; clear BK102; clear BK103; clear HB; have BK101 := n0_; have BK102 := n1_; have BK103 := n2_; have HB := n3_; clear n0_ n1_ n2_ n3_; (try clear hb); (try clear hb2); (try clear hk); (try clear hi); have hcz17_0 : w16.cell? ⟨gb103, 0, none⟩ = some (.int .i64 0) := (blk_cell BK103.out 0).trans rfl; have hcz17_1 : w16.cell? ⟨gb103, 1, none⟩ = some (.int .i64 0) := (blk_cell BK103.out 1).trans rfl; have hcz17_2 : w16.cell? ⟨gb103, 2, none⟩ = some (.string (⟨#[]⟩ : ByteArray)) := (blk_cell BK103.out 2).trans rfl; have hfz17_0 := blk_frozen BK103.out 0; have hfz17_1 := blk_frozen BK103.out 1; have hfz17_2 := blk_frozen BK103.out 2))
    refine bodyPost_ret (results_cell_row rfl _ _ gb103 35 #[.int .i64 t105, .int .i64 t106, .string t107] (0, 0) _ rfl (by (with_reducible repeat (first | refine blk_drewN ?_ _ | refine blk_drew ?_ | refine blk_alloc ?_ _)); refine blk_put (cs := #[.int .i64 t105, .int .i64 t106, .string (⟨#[]⟩ : ByteArray)]) ?_ 2 _ rfl; (with_reducible repeat (first | refine blk_drewN ?_ _ | refine blk_drew ?_ | refine blk_alloc ?_ _)); refine blk_put (cs := #[.int .i64 t105, .int .i64 0, .string (⟨#[]⟩ : ByteArray)]) ?_ 1 _ rfl; (with_reducible repeat (first | refine blk_drewN ?_ _ | refine blk_drew ?_ | refine blk_alloc ?_ _)); refine blk_put (cs := #[.int .i64 0, .int .i64 0, .string (⟨#[]⟩ : ByteArray)]) ?_ 0 _ rfl; (with_reducible repeat (first | refine blk_drewN ?_ _ | refine blk_drew ?_ | refine blk_alloc ?_ _)); exact BK103.out) Tryz.underlying35 rfl (by kernel_rfl)) rfl ?_
    exact ⟨by first | rfl | (simp [errW_none, errW_some] <;> rfl) | (simp only [← hji5]; first | rfl | (simp [errW_none, errW_some] <;> rfl)) | (simp [*, errW_none, errW_some] <;> rfl), by repeat (first | (with_reducible first | exact HB.out | apply below_alloc | apply pw_below_drewN | apply below_drew1 | refine below_set ?_ GE101.out | refine below_set ?_ GE102.out | refine below_set ?_ GE103.out) | exact HB.out)⟩
  · rw [if_neg c3] at H
    have c3b0 : (a1_0 == 2) = false := beq_eq_false_iff_ne.mpr c3
    have c3b1 : (a1_0 != 2) = true := bne_iff_ne.mpr c3
    obtain ⟨ji18, hji18⟩ : ∃ j_ : Int, (mn a0_2 (a1_2.size : Int)) = j_ := ⟨_, rfl⟩
    replace H : (if 0 ≤ (ji18) then (if (ji18) ≤ (a1_2.size : Int) then ((partition_str.f (a1_2.extract 0 ((ji18) : Int).toNat)).bind fun bt108 => (some (bt108.1, bt108.2.1, bt108.2.2))) else (none)) else (none)) = some (r1, r2, r3) := by first | (rw [hji18] at H; exact H) | (simp only [hji18] at H ⊢; exact H)
    have hji18_ : (if (a1_2.size : Int) < a0_2 then (a1_2.size : Int) else a0_2) = ji18 := hji18
    by_cases c19 : 0 ≤ (ji18)
    · rw [if_pos c19] at H
      have c19b0 := eq_true c19
      have c19b1 : decide (0 ≤ (ji18)) = true := decide_eq_true c19
      clear c19
      by_cases c20 : (ji18) ≤ (a1_2.size : Int)
      · rw [if_pos c20] at H
        have c20b0 := eq_true c20
        have c20b1 : decide ((ji18) ≤ (a1_2.size : Int)) = true := decide_eq_true c20
        clear c20
        replace H := Option.bind_eq_some_iff.mp H
        obtain ⟨⟨t108, t109, t110⟩, A210, H⟩ := H
        replace H : (some (t108, t109, t110)) = some (r1, r2, r3) := H
        have A21 := Aside0.mk A210
        clear A210
        simp only [Option.some.injEq, Prod.mk.injEq] at H
        obtain ⟨rfl, rfl, rfl⟩ := H
        go_enter Tryz.func82, Tryz.ntmps82
        go_wp2_with (first | ((with_reducible refine gate_dst (N := 2) rfl ?_); refine box_event ?hg (N := 2) ?hd (cs := #[.int .i64 a0_0, .int .i64 a0_1, .int .i64 a0_2]) (t := 106) ?hr ?_; (case hd => rfl); (case hg => rfl); (case hr => first | (go_simp; done) | (go_simp; rfl)); intro gb101 hg w22 hbox hb; have n0_ := Aside0.mk (below_step (by repeat (first | (with_reducible first | exact HB.out | apply below_alloc | apply pw_below_drewN | apply below_drew1) | exact HB.out)) hb); have n1_ := Aside0.mk (hbox); have n2_ := Aside0.mk ((by rw [hg]; exact (below_size (by repeat (first | (with_reducible first | exact HB.out | apply below_alloc | apply pw_below_drewN | apply below_drew1) | exact HB.out))) : w.heap.size ≤ gb101)); have n3_ := Aside0.mk ((by rw [hg]; exact (below_size (by repeat (first | (with_reducible first | exact HB.out | apply below_alloc | apply pw_below_drewN | apply below_drew1) | exact HB.out))) : w.heap.size ≤ gb101)); clear HB; have HB := n0_; have BK101 := n1_; have GW101 := n2_; have GE101 := n3_; clear n0_ n1_ n2_ n3_; clear hb hbox hg) | ((with_reducible refine gate_dst (N := 3) rfl ?_); refine box_event ?hg (N := 3) ?hd (cs := #[.int .i64 a1_0, .int .i64 a1_1, .string a1_2]) (t := 35) ?hr ?_; (case hd => rfl); (case hg => rfl); (case hr => first | (go_simp; done) | (go_simp; rfl)); intro gb102 hg w23 hbox hb; have n0_ := Aside0.mk (blk_below (g := gb101) (o := .cells #[.int .i64 a0_0, .int .i64 a0_1, .int .i64 a0_2] 106 (0, 0)) (by (with_reducible repeat (first | refine blk_drewN ?_ _ | refine blk_drew ?_ | refine blk_alloc ?_ _)); exact BK101.out) hb); have n1_ := Aside0.mk (below_step (by repeat (first | (with_reducible first | exact HB.out | apply below_alloc | apply pw_below_drewN | apply below_drew1 | refine below_set ?_ GE101.out) | exact HB.out)) hb); have n2_ := Aside0.mk (hbox); have n3_ := Aside0.mk ((by rw [hg]; exact (below_size (by repeat (first | (with_reducible first | exact HB.out | apply below_alloc | apply pw_below_drewN | apply below_drew1 | refine below_set ?_ GE101.out) | exact HB.out))) : w.heap.size ≤ gb102)); have n4_ := Aside0.mk ((by rw [hg]; exact (below_size (by repeat (first | (with_reducible first | exact HB.out | apply below_alloc | apply pw_below_drewN | apply below_drew1 | refine below_set ?_ GE101.out) | exact HB.out))) : w.heap.size ≤ gb102)); have n5_ := Aside0.mk ((by rw [hg]; exact Nat.ne_of_lt (blk_lt (g := gb101) (o := .cells #[.int .i64 a0_0, .int .i64 a0_1, .int .i64 a0_2] 106 (0, 0)) (by (with_reducible repeat (first | refine blk_drewN ?_ _ | refine blk_drew ?_ | refine blk_alloc ?_ _)); exact BK101.out)) : gb101 ≠ gb102)); have n6_ := Aside0.mk ((by rw [hg]; exact Nat.ne_of_gt (blk_lt (g := gb101) (o := .cells #[.int .i64 a0_0, .int .i64 a0_1, .int .i64 a0_2] 106 (0, 0)) (by (with_reducible repeat (first | refine blk_drewN ?_ _ | refine blk_drew ?_ | refine blk_alloc ?_ _)); exact BK101.out)) : gb102 ≠ gb101)); clear BK101; clear HB; have BK101 := n0_; have HB := n1_; have BK102 := n2_; have GW102 := n3_; have GE102 := n4_; have NB101_102 := n5_; have NB102_101 := n6_; clear n0_ n1_ n2_ n3_ n4_ n5_ n6_; clear hb hbox hg) | ((with_reducible refine gate_dst (N := 4) rfl ?_); refine box_event ?hg (N := 4) ?hd (cs := #[.int .i64 0, .int .i64 0, .string (⟨#[]⟩ : ByteArray)]) (t := 35) ?hr ?_; (case hd => rfl); (case hg => rfl); (case hr => first | (go_simp; done) | (go_simp; rfl)); intro gb103 hg w24 hbox hb; have n0_ := Aside0.mk (blk_below (g := gb101) (o := .cells #[.int .i64 a0_0, .int .i64 a0_1, .int .i64 a0_2] 106 (0, 0)) (by (with_reducible repeat (first | refine blk_drewN ?_ _ | refine blk_drew ?_ | refine blk_alloc ?_ _)); exact BK101.out) hb); have n1_ := Aside0.mk (blk_below (g := gb102) (o := .cells #[.int .i64 a1_0, .int .i64 a1_1, .string a1_2] 35 (0, 0)) (by (with_reducible repeat (first | refine blk_drewN ?_ _ | refine blk_drew ?_ | refine blk_alloc ?_ _)); exact BK102.out) hb); have n2_ := Aside0.mk (below_step (by repeat (first | (with_reducible first | exact HB.out | apply below_alloc | apply pw_below_drewN | apply below_drew1 | refine below_set ?_ GE101.out | refine below_set ?_ GE102.out) | exact HB.out)) hb); have n3_ := Aside0.mk (hbox); have n4_ := Aside0.mk ((by rw [hg]; exact (below_size (by repeat (first | (with_reducible first | exact HB.out | apply below_alloc | apply pw_below_drewN | apply below_drew1 | refine below_set ?_ GE101.out | refine below_set ?_ GE102.out) | exact HB.out))) : w.heap.size ≤ gb103)); have n5_ := Aside0.mk ((by rw [hg]; exact (below_size (by repeat (first | (with_reducible first | exact HB.out | apply below_alloc | apply pw_below_drewN | apply below_drew1 | refine below_set ?_ GE101.out | refine below_set ?_ GE102.out) | exact HB.out))) : w.heap.size ≤ gb103)); have n6_ := Aside0.mk ((by rw [hg]; exact Nat.ne_of_lt (blk_lt (g := gb101) (o := .cells #[.int .i64 a0_0, .int .i64 a0_1, .int .i64 a0_2] 106 (0, 0)) (by (with_reducible repeat (first | refine blk_drewN ?_ _ | refine blk_drew ?_ | refine blk_alloc ?_ _)); exact BK101.out)) : gb101 ≠ gb103)); have n7_ := Aside0.mk ((by rw [hg]; exact Nat.ne_of_gt (blk_lt (g := gb101) (o := .cells #[.int .i64 a0_0, .int .i64 a0_1, .int .i64 a0_2] 106 (0, 0)) (by (with_reducible repeat (first | refine blk_drewN ?_ _ | refine blk_drew ?_ | refine blk_alloc ?_ _)); exact BK101.out)) : gb103 ≠ gb101)); have n8_ := Aside0.mk ((by rw [hg]; exact Nat.ne_of_lt (blk_lt (g := gb102) (o := .cells #[.int .i64 a1_0, .int .i64 a1_1, .string a1_2] 35 (0, 0)) (by (with_reducible repeat (first | refine blk_drewN ?_ _ | refine blk_drew ?_ | refine blk_alloc ?_ _)); exact BK102.out)) : gb102 ≠ gb103)); have n9_ := Aside0.mk ((by rw [hg]; exact Nat.ne_of_gt (blk_lt (g := gb102) (o := .cells #[.int .i64 a1_0, .int .i64 a1_1, .string a1_2] 35 (0, 0)) (by (with_reducible repeat (first | refine blk_drewN ?_ _ | refine blk_drew ?_ | refine blk_alloc ?_ _)); exact BK102.out)) : gb103 ≠ gb102)); clear BK101; clear BK102; clear HB; have BK101 := n0_; have BK102 := n1_; have HB := n2_; have BK103 := n3_; have GW103 := n4_; have GE103 := n5_; have NB101_103 := n6_; have NB103_101 := n7_; have NB102_103 := n8_; have NB103_102 := n9_; clear n0_ n1_ n2_ n3_ n4_ n5_ n6_ n7_ n8_ n9_; clear hb hbox hg; have hnb25 := NB102_101.out; have hnc25 := NB101_102.out; have hnb26 := NB102_103.out; have hnc26 := NB103_102.out; have hcz27_0 : w24.cell? ⟨gb102, 0, none⟩ = some (.int .i64 a1_0) := (blk_cell BK102.out 0).trans rfl; have hcz27_1 : w24.cell? ⟨gb102, 1, none⟩ = some (.int .i64 a1_1) := (blk_cell BK102.out 1).trans rfl; have hcz27_2 : w24.cell? ⟨gb102, 2, none⟩ = some (.string a1_2) := (blk_cell BK102.out 2).trans rfl; have hfz27_0 := blk_frozen BK102.out 0; have hfz27_1 := blk_frozen BK102.out 1; have hfz27_2 := blk_frozen BK102.out 2; have hnb28 := NB101_103.out; have hnc28 := NB103_101.out; have hcz29_0 : w24.cell? ⟨gb101, 0, none⟩ = some (.int .i64 a0_0) := (blk_cell BK101.out 0).trans rfl; have hcz29_1 : w24.cell? ⟨gb101, 1, none⟩ = some (.int .i64 a0_1) := (blk_cell BK101.out 1).trans rfl; have hcz29_2 : w24.cell? ⟨gb101, 2, none⟩ = some (.int .i64 a0_2) := (blk_cell BK101.out 2).trans rfl; have hfz29_0 := blk_frozen BK101.out 0; have hfz29_1 := blk_frozen BK101.out 1; have hfz29_2 := blk_frozen BK101.out 2) | ((with_reducible refine gate_callee (f := 115) rfl ?_); refine goesL_ (some 23) rfl rfl Tryz.func115 (by kernel_rfl) rfl #[.string (a1_2.extract 0 ((ji18) : Int).toNat)] rfl (by (try simp only [List.map_toArray, List.map_cons, List.map_nil]); first | done | (simp only [hji18]; rfl) | rfl | (simp only [List.length_drop, List.length_take]; rfl)) ?_; (with_reducible refine (partition_str.calls (a1_2.extract 0 ((ji18) : Int).toNat) t108 t109 t110 _ A21.out).mono ?_); rintro e w30 ⟨rfl, hb⟩; refine ⟨_, rfl, ?_⟩; have n0_ := Aside0.mk (blk_below (g := gb101) (o := .cells #[.int .i64 a0_0, .int .i64 a0_1, .int .i64 a0_2] 106 (0, 0)) (by (with_reducible repeat (first | refine blk_drewN ?_ _ | refine blk_drew ?_ | refine blk_alloc ?_ _)); exact BK101.out) hb); have n1_ := Aside0.mk (blk_below (g := gb102) (o := .cells #[.int .i64 a1_0, .int .i64 a1_1, .string a1_2] 35 (0, 0)) (by (with_reducible repeat (first | refine blk_drewN ?_ _ | refine blk_drew ?_ | refine blk_alloc ?_ _)); exact BK102.out) hb); have n2_ := Aside0.mk (blk_below (g := gb103) (o := .cells #[.int .i64 0, .int .i64 0, .string (⟨#[]⟩ : ByteArray)] 35 (0, 0)) (by (with_reducible repeat (first | refine blk_drewN ?_ _ | refine blk_drew ?_ | refine blk_alloc ?_ _)); exact BK103.out) hb); have n3_ := Aside0.mk (below_step (by repeat (first | (with_reducible first | exact HB.out | apply below_alloc | apply pw_below_drewN | apply below_drew1 | refine below_set ?_ GE101.out | refine below_set ?_ GE102.out | refine below_set ?_ GE103.out) | exact HB.out)) hb); clear BK101; clear BK102; clear BK103; clear HB; have BK101 := n0_; have BK102 := n1_; have BK103 := n2_; have HB := n3_; clear n0_ n1_ n2_ n3_; (try clear hb); (try clear hb2); (try clear hk); (try clear hi); have hcz31_0 : w30.cell? ⟨gb103, 0, none⟩ = some (.int .i64 0) := (blk_cell BK103.out 0).trans rfl; have hcz31_1 : w30.cell? ⟨gb103, 1, none⟩ = some (.int .i64 0) := (blk_cell BK103.out 1).trans rfl; have hcz31_2 : w30.cell? ⟨gb103, 2, none⟩ = some (.string (⟨#[]⟩ : ByteArray)) := (blk_cell BK103.out 2).trans rfl; have hfz31_0 := blk_frozen BK103.out 0; have hfz31_1 := blk_frozen BK103.out 1; have hfz31_2 := blk_frozen BK103.out 2))
        refine bodyPost_ret (results_cell_row rfl _ _ gb103 35 #[.int .i64 t108, .int .i64 t109, .string t110] (0, 0) _ rfl (by (with_reducible repeat (first | refine blk_drewN ?_ _ | refine blk_drew ?_ | refine blk_alloc ?_ _)); refine blk_put (cs := #[.int .i64 t108, .int .i64 t109, .string (⟨#[]⟩ : ByteArray)]) ?_ 2 _ rfl; (with_reducible repeat (first | refine blk_drewN ?_ _ | refine blk_drew ?_ | refine blk_alloc ?_ _)); refine blk_put (cs := #[.int .i64 t108, .int .i64 0, .string (⟨#[]⟩ : ByteArray)]) ?_ 1 _ rfl; (with_reducible repeat (first | refine blk_drewN ?_ _ | refine blk_drew ?_ | refine blk_alloc ?_ _)); refine blk_put (cs := #[.int .i64 0, .int .i64 0, .string (⟨#[]⟩ : ByteArray)]) ?_ 0 _ rfl; (with_reducible repeat (first | refine blk_drewN ?_ _ | refine blk_drew ?_ | refine blk_alloc ?_ _)); exact BK103.out) Tryz.underlying35 rfl (by kernel_rfl)) rfl ?_
        exact ⟨by first | rfl | (simp [errW_none, errW_some] <;> rfl) | (simp only [← hji18]; first | rfl | (simp [errW_none, errW_some] <;> rfl)) | (simp [*, errW_none, errW_some] <;> rfl), by repeat (first | (with_reducible first | exact HB.out | apply below_alloc | apply pw_below_drewN | apply below_drew1 | refine below_set ?_ GE101.out | refine below_set ?_ GE102.out | refine below_set ?_ GE103.out) | exact HB.out)⟩
      · rw [if_neg c20] at H
        exact absurd H (by simp)
    · rw [if_neg c19] at H
      exact absurd H (by simp)
end Go.Proofs.YteflfnjljjianaaGreatDoor.Qx
namespace Go.Proofs.YteflfnjljjianaaGreatDoor.Qx
open Go.RowKit Go.Proofs.YteflfnjljjianaaGreatDoorW.PrintWords Go.Proofs.YteflfnjljjianaaGreatDoorW.PrintLast Go.Proofs.YteflfnjljjianaaGreatDoorW.PrintMore
attribute [local go_sem] max2_int min2_int max_two min_two
set_option linter.unusedVariables false
set_option linter.unusedSimpArgs false
theorem partition_kinds.tab (w : World) : Calls Tryz.prog 44 #[] w fun e w' => e = .returned (.agg #[.nilFunc, .nilFunc, .nilFunc, .nilFunc, .func (.func 75) #[] #[], .func (.func 76) #[] #[], .func (.func 77) #[] #[], .func (.func 76) #[] #[], .func (.func 78) #[] #[], .func (.func 79) #[] #[], .func (.func 80) #[] #[], .nilFunc, .func (.func 81) #[] #[], .func (.func 82) #[] #[], .func (.func 83) #[] #[], .func (.func 84) #[] #[]]) ∧ Below w.heap.size w w' := by
  have hu := Tryz.underlying98
  have hu2 := Tryz.underlying97
  go_enter Tryz.func44, Tryz.ntmps44
  go_wp2
  refine bodyPost_ret (v := .agg #[.nilFunc, .nilFunc, .nilFunc, .nilFunc, .func (.func 75) #[] #[], .func (.func 76) #[] #[], .func (.func 77) #[] #[], .func (.func 76) #[] #[], .func (.func 78) #[] #[], .func (.func 79) #[] #[], .func (.func 80) #[] #[], .nilFunc, .func (.func 81) #[] #[], .func (.func 82) #[] #[], .func (.func 83) #[] #[], .func (.func 84) #[] #[]]) (by simp [results, Tryz.results44, go_sem]) rfl ⟨rfl, ?_⟩
  exact (Below.refl _ w).alloc (Nat.le_refl _) _
theorem partition_kinds.at1 (w : World) : (Instr.index 98 (.agg #[.nilFunc, .nilFunc, .nilFunc, .nilFunc, .func (.func 75) #[] #[], .func (.func 76) #[] #[], .func (.func 77) #[] #[], .func (.func 76) #[] #[], .func (.func 78) #[] #[], .func (.func 79) #[] #[], .func (.func 80) #[] #[], .nilFunc, .func (.func 81) #[] #[], .func (.func 82) #[] #[], .func (.func 83) #[] #[], .func (.func 84) #[] #[]]) (.int .i64 1)).run Tryz.prog w = .ok (.agg #[.func (.func 75) #[] #[], .func (.func 76) #[] #[], .func (.func 77) #[] #[], .func (.func 76) #[] #[]]) w := by kernel_rfl
theorem partition_kinds.at2 (w : World) : (Instr.index 98 (.agg #[.nilFunc, .nilFunc, .nilFunc, .nilFunc, .func (.func 75) #[] #[], .func (.func 76) #[] #[], .func (.func 77) #[] #[], .func (.func 76) #[] #[], .func (.func 78) #[] #[], .func (.func 79) #[] #[], .func (.func 80) #[] #[], .nilFunc, .func (.func 81) #[] #[], .func (.func 82) #[] #[], .func (.func 83) #[] #[], .func (.func 84) #[] #[]]) (.int .i64 2)).run Tryz.prog w = .ok (.agg #[.func (.func 78) #[] #[], .func (.func 79) #[] #[], .func (.func 80) #[] #[], .nilFunc]) w := by kernel_rfl
theorem partition_kinds.at3 (w : World) : (Instr.index 98 (.agg #[.nilFunc, .nilFunc, .nilFunc, .nilFunc, .func (.func 75) #[] #[], .func (.func 76) #[] #[], .func (.func 77) #[] #[], .func (.func 76) #[] #[], .func (.func 78) #[] #[], .func (.func 79) #[] #[], .func (.func 80) #[] #[], .nilFunc, .func (.func 81) #[] #[], .func (.func 82) #[] #[], .func (.func 83) #[] #[], .func (.func 84) #[] #[]]) (.int .i64 3)).run Tryz.prog w = .ok (.agg #[.func (.func 81) #[] #[], .func (.func 82) #[] #[], .func (.func 83) #[] #[], .func (.func 84) #[] #[]]) w := by kernel_rfl
theorem partition_kinds.fld1_0 (w : World) : (Instr.field 97 (.agg #[.func (.func 75) #[] #[], .func (.func 76) #[] #[], .func (.func 77) #[] #[], .func (.func 76) #[] #[]]) 0).run Tryz.prog w = .ok (.func (.func 75) #[] #[]) w := by kernel_rfl
theorem partition_kinds.fld1_1 (w : World) : (Instr.field 97 (.agg #[.func (.func 75) #[] #[], .func (.func 76) #[] #[], .func (.func 77) #[] #[], .func (.func 76) #[] #[]]) 1).run Tryz.prog w = .ok (.func (.func 76) #[] #[]) w := by kernel_rfl
theorem partition_kinds.fld1_2 (w : World) : (Instr.field 97 (.agg #[.func (.func 75) #[] #[], .func (.func 76) #[] #[], .func (.func 77) #[] #[], .func (.func 76) #[] #[]]) 2).run Tryz.prog w = .ok (.func (.func 77) #[] #[]) w := by kernel_rfl
theorem partition_kinds.fld1_3 (w : World) : (Instr.field 97 (.agg #[.func (.func 75) #[] #[], .func (.func 76) #[] #[], .func (.func 77) #[] #[], .func (.func 76) #[] #[]]) 3).run Tryz.prog w = .ok (.func (.func 76) #[] #[]) w := by kernel_rfl
theorem partition_kinds.fld2_0 (w : World) : (Instr.field 97 (.agg #[.func (.func 78) #[] #[], .func (.func 79) #[] #[], .func (.func 80) #[] #[], .nilFunc]) 0).run Tryz.prog w = .ok (.func (.func 78) #[] #[]) w := by kernel_rfl
theorem partition_kinds.fld2_1 (w : World) : (Instr.field 97 (.agg #[.func (.func 78) #[] #[], .func (.func 79) #[] #[], .func (.func 80) #[] #[], .nilFunc]) 1).run Tryz.prog w = .ok (.func (.func 79) #[] #[]) w := by kernel_rfl
theorem partition_kinds.fld2_2 (w : World) : (Instr.field 97 (.agg #[.func (.func 78) #[] #[], .func (.func 79) #[] #[], .func (.func 80) #[] #[], .nilFunc]) 2).run Tryz.prog w = .ok (.func (.func 80) #[] #[]) w := by kernel_rfl
theorem partition_kinds.fld2_3 (w : World) : (Instr.field 97 (.agg #[.func (.func 78) #[] #[], .func (.func 79) #[] #[], .func (.func 80) #[] #[], .nilFunc]) 3).run Tryz.prog w = .ok (.nilFunc) w := by kernel_rfl
theorem partition_kinds.fld3_0 (w : World) : (Instr.field 97 (.agg #[.func (.func 81) #[] #[], .func (.func 82) #[] #[], .func (.func 83) #[] #[], .func (.func 84) #[] #[]]) 0).run Tryz.prog w = .ok (.func (.func 81) #[] #[]) w := by kernel_rfl
theorem partition_kinds.fld3_1 (w : World) : (Instr.field 97 (.agg #[.func (.func 81) #[] #[], .func (.func 82) #[] #[], .func (.func 83) #[] #[], .func (.func 84) #[] #[]]) 1).run Tryz.prog w = .ok (.func (.func 82) #[] #[]) w := by kernel_rfl
theorem partition_kinds.fld3_2 (w : World) : (Instr.field 97 (.agg #[.func (.func 81) #[] #[], .func (.func 82) #[] #[], .func (.func 83) #[] #[], .func (.func 84) #[] #[]]) 2).run Tryz.prog w = .ok (.func (.func 83) #[] #[]) w := by kernel_rfl
theorem partition_kinds.fld3_3 (w : World) : (Instr.field 97 (.agg #[.func (.func 81) #[] #[], .func (.func 82) #[] #[], .func (.func 83) #[] #[], .func (.func 84) #[] #[]]) 3).run Tryz.prog w = .ok (.func (.func 84) #[] #[]) w := by kernel_rfl
end Go.Proofs.YteflfnjljjianaaGreatDoor.Qx
